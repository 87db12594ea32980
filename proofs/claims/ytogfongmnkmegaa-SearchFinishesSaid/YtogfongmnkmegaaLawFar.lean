/- The reference's ways back. -/
import Derived.Test.YtogfongmnkmegaaLawWalk
set_option linter.unusedVariables false
namespace Go.Proofs.Ytogfongmnkmegaa.Pad
open Go Go.Proofs
theorem gi_ {α : Type} (z : α) (l : List α) (i : Nat) (v : α) (p : Nat) (h : i < l.length) : ix z (l.set i v) (p : Int) = if p = i then v else ix z l p := by
  unfold ix
  simp only [Int.toNat_natCast, List.getElem?_set]
  by_cases hp : p = i
  · subst hp; simp [h]
  · rw [if_neg (fun e => hp e.symm), if_neg hp]
def knR (M : List Ref06_gone) (p i : Int) : Bool := decide ((⟨p, i⟩ : Ref06_gone) ∈ M)
theorem nm_ {α : Type} [DecidableEq α] (x : α) (M : List α) : decide (idx (fun y => decide (y = x)) M < 0) = !decide (x ∈ M) := by
  rcases ei_ (fun y => decide (y = x)) M with ⟨h1, _, h2⟩ | ⟨i, hi, h1, _, h2, _⟩
  · rw [h1]
    have : x ∉ M := fun hx => by have := h2 x hx; simp at this
    simp [this]
  · rw [h1]
    have : x ∈ M := by simp at h2; exact h2 ▸ List.getElem_mem hi
    simp [this]
theorem mg_ (M : List Ref06_gone) (x : Ref06_gone) : F73 M x = some (idx (fun y => decide (y = x)) M) := by
  unfold F73
  rw [dr_ (p := fun y => decide (y = x)) (out := fun i => (i : Int)) (fun i hi => by
    rw [de_ hi, Option.bind_some]
    by_cases hp : M[i] = x <;> simp [hp])]
  unfold idx
  cases M.findIdx? (fun y => decide (y = x)) <;> rfl
def ey_ (E : List (List Edge)) (kn : Int → Int → Bool) (p turn : Int) : Int :=
  match (List.range (ba_ E p).length).findIdx? (fun i : Nat => !kn p ((turn + i) % ((ba_ E p).length : Int))) with
  | some i => (turn + i) % ((ba_ E p).length : Int)
  | none => -1
theorem dq_ (E : List (List Edge)) (kn : Int → Int → Bool) (p turn : Int) :
    (ey_ E kn p turn = -1 ∧ ¬ Fr_ E kn p) ∨ (0 ≤ ey_ E kn p turn ∧ ey_ E kn p turn < (ba_ E p).length ∧ kn p (ey_ E kn p turn) = false) := by
  unfold ey_
  cases h : (List.range (ba_ E p).length).findIdx? (fun i : Nat => !kn p ((turn + i) % ((ba_ E p).length : Int))) with
  | none =>
    refine .inl ⟨rfl, ?_⟩
    rintro ⟨i, h0, h1, h2⟩
    have hn := List.findIdx?_eq_none_iff.1 h ((i - turn) % ((ba_ E p).length : Int)).toNat (by
      have := Int.emod_lt_of_pos (i - turn) (b := ((ba_ E p).length : Int)) (by omega)
      simp; omega)
    have hm := Int.emod_nonneg (i - turn) (b := ((ba_ E p).length : Int)) (by omega)
    rw [Int.toNat_of_nonneg hm] at hn
    rw [Int.add_emod_emod, show turn + (i - turn) = i by omega, Int.emod_eq_of_lt h0 h1, h2] at hn
    simp at hn
  | some i =>
    obtain ⟨h1, h2, _⟩ := List.findIdx?_eq_some_iff_getElem.1 h
    simp only [List.length_range] at h1
    refine .inr ⟨Int.emod_nonneg _ (by omega), Int.emod_lt_of_pos _ (by omega), ?_⟩
    simpa using h2
theorem ny_ {g : Graph} {M : List Ref06_gone} {p turn : Int} (h0 : 0 ≤ p) (h1 : p < g.Edges.length) (hr : (ba_ g.Edges p).length ≤ 100) (ht : 0 ≤ turn) (ht' : turn ≤ 99) :
    F70 g M p turn = some (ey_ g.Edges (knR M) p turn) := by
  unfold F70
  rw [ce_ [] h0 h1, Option.bind_some]
  have := dr_ (ρ := Int) (p := fun i : Nat => !knR M p ((turn + i) % ((ba_ g.Edges p).length : Int))) (l := List.range (ba_ g.Edges p).length)
    (out := fun i => (turn + (i : Int)) % ((ba_ g.Edges p).length : Int)) (body := fun i1 s1 =>
      (md (w64 (turn + (i1 : Int))) ((ba_ g.Edges p).length : Int)).bind fun x6 =>
      (F73 M (⟨p, x6⟩ : Ref06_gone)).bind fun x7 => if decide (x7 < 0) then (some (Sum.inr x6)) else (some (Sum.inl ()))) (fun i hi => by
    simp only [List.length_range] at hi
    rw [ci_ (by omega) (by omega), lt_ (by omega), Option.bind_some, mg_, Option.bind_some, nm_, Int.tmod_eq_emod_of_nonneg (by omega)]
    simp only [List.getElem_range, knR]
    split <;> rfl)
  rw [List.length_range] at this
  change Option.bind (forN _ _ _ _) _ = _
  rw [this, Option.bind_some]
  unfold ey_
  cases (List.range (ba_ g.Edges p).length).findIdx? (fun i : Nat => !knR M p ((turn + i) % ((ba_ g.Edges p).length : Int))) <;> rfl
def FarIs (E : List (List Edge)) (kn : Int → Int → Bool) (to : Int) (out : List Int) : Prop :=
  out.length = E.length ∧ ∀ p : Nat, p < E.length → (∃ j : Nat, ix 0 out p = j ∧ Di E kn j p to) ∨ (ix 0 out p = -1 ∧ ∀ j, ¬ Di E kn j p to)
def FarTo (E : List (List Edge)) (kn : Int → Int → Bool) (to : Int) (s : Nat) (out : List Int) : Prop :=
  out.length = E.length ∧ ∀ p : Nat, p < E.length → (∃ j : Nat, j ≤ s ∧ ix 0 out p = j ∧ Di E kn j p to) ∨ (ix 0 out p = -1 ∧ ∀ j, j ≤ s → ¬ Di E kn j p to)
theorem ly_ {g : Graph} {M : List Ref06_gone} {to : Int} {s : Nat} {out : List Int} (hk : me_ g.Edges (knR M)) (he : ez_ g.Edges) (hn : g.Edges.length ≤ 300) (hto : 0 ≤ to ∧ to < g.Edges.length)
    (hs : s < g.Edges.length) (h : FarTo g.Edges (knR M) to s out) :
    Tot (forS (σ := (List Int × Bool)) (fun i7 s9 =>
 (at? M (i7 : Int)).bind fun x280 =>
 (((at? s9.1 x280.position).bind fun x285 =>
 if decide (x285 < 0) then
 ((at? g.Edges x280.position).bind fun x286 =>
 (at? x286 x280.edge).bind fun x287 =>
 (at? s9.1 x287.To).bind fun x288 =>
 some (x288 == (s : Int)))
 else
 (some false)) : Option (Bool)).bind fun v28 =>
 if v28 then
 ((at? s9.1 x280.position).bind fun x289 =>
 some (s9.1.set (x280.position).toNat (w64 ((s : Int) + 1)), true))
 else
 (some (s9.1, s9.2))) M.length 0 (out, false)) (fun r => FarTo g.Edges (knR M) to (s + 1) r.1 ∧
   ((r.2 = true ∧ ∃ p : Nat, p < g.Edges.length ∧ ix 0 r.1 p = ((s + 1 : Nat) : Int)) ∨ (r.2 = false ∧ ∀ p : Nat, p < g.Edges.length → ix 0 r.1 p ≠ ((s + 1 : Nat) : Int)))) := by
  obtain ⟨hl, hA⟩ := h
  refine Tot.mono (Tot.forS (fun j (r : List Int × Bool) => r.1.length = g.Edges.length ∧
    (∀ p : Nat, p < g.Edges.length → (ix 0 r.1 p = ix 0 out p ∧ ∀ m (hm : m < M.length), m < j → M[m].position = p → ix 0 out p < 0 → ix 0 out (nx g.Edges p M[m].edge) ≠ s) ∨
      (ix 0 out p = -1 ∧ ix 0 r.1 p = ((s + 1 : Nat) : Int) ∧ ∃ i, knR M p i = true ∧ ix 0 out (nx g.Edges p i) = s)) ∧
    ((r.2 = true ∧ ∃ p : Nat, p < g.Edges.length ∧ ix 0 r.1 p = ((s + 1 : Nat) : Int)) ∨ (r.2 = false ∧ ∀ p : Nat, p < g.Edges.length → ix 0 r.1 p ≠ ((s + 1 : Nat) : Int)))) ?_ ?_) ?_
  · refine ⟨hl, fun p hp => .inl ⟨rfl, fun m _ h => by omega⟩, .inr ⟨rfl, fun p hp => ?_⟩⟩
    rcases hA p hp with ⟨j, h1, h2, _⟩ | ⟨h1, _⟩
    · rw [h2]; omega
    · rw [h1]; omega
  · rintro j ⟨r, ch⟩ hj ⟨hrl, hI, hch⟩
    simp only at hrl hI hch ⊢
    rw [de_ hj, Option.bind_some]
    have hkn : knR M M[j].position M[j].edge = true := by
      unfold knR; exact decide_eq_true (List.getElem_mem hj)
    have ⟨k1, k2, k3, k4⟩ := hk _ _ hkn
    have hq := he _ _ k1 k2 k3 k4
    have hpos : ((M[j].position.toNat : Nat) : Int) = M[j].position := by omega
    have hqn : (((nx g.Edges M[j].position M[j].edge).toNat : Nat) : Int) = nx g.Edges M[j].position M[j].edge := by omega
    have hnx : (ix z0 (ba_ g.Edges M[j].position) M[j].edge).To = nx g.Edges M[j].position M[j].edge := rfl
    rw [ce_ 0 k1 (by omega), Option.bind_some, ce_ [] k1 (by omega), Option.bind_some, ce_ z0 k3 k4, Option.bind_some,
      hnx, ce_ 0 hq.1 (by omega), Option.bind_some]
    change Tot (Option.bind (if decide (ix 0 r M[j].position < 0) = true then some (ix 0 r (nx g.Edges M[j].position M[j].edge) == (s : Int)) else some false) _) _
    have hAp := hA M[j].position.toNat (by omega)
    have hIp := hI M[j].position.toNat (by omega)
    have hIq := hI (nx g.Edges M[j].position M[j].edge).toNat (by omega)
    rw [hpos] at hIp hAp
    rw [hqn] at hIq
    by_cases hc : ix 0 r M[j].position < 0 ∧ ix 0 r (nx g.Edges M[j].position M[j].edge) = s
    · rw [if_pos (by simp [hc.1]), Option.bind_some, if_pos (by simp [hc.2]), Option.bind_some, ci_ (by omega) (by omega)]
      refine Tot.pure ⟨by simp [hrl], ?_, .inl ⟨rfl, M[j].position.toNat, by omega, ?_⟩⟩
      · intro p hp
        simp only
        rw [gi_ _ _ _ _ _ (by omega)]
        by_cases hpp : p = M[j].position.toNat
        · rw [if_pos hpp]
          subst hpp
          right
          rw [hpos]
          refine ⟨?_, by omega, M[j].edge, hkn, ?_⟩
          · rcases hIp with ⟨a, _⟩ | ⟨_, a, _⟩
            · rcases hAp with ⟨_, _, b, _⟩ | ⟨b, _⟩
              · omega
              · exact b
            · omega
          · rcases hIq with ⟨a, _⟩ | ⟨_, a, _⟩
            · rw [← a]; exact hc.2
            · omega
        · rw [if_neg hpp]
          rcases hI p hp with ⟨a, b⟩ | h
          · refine .inl ⟨a, fun m hm hlt hmp => ?_⟩
            by_cases hmj : m = j
            · subst hmj; omega
            · exact b m hm (by omega) hmp
          · exact .inr h
      · simp only
        rw [gi_ _ _ _ _ _ (by omega), if_pos rfl]; omega
    · have hv : (if decide (ix 0 r M[j].position < 0) = true then some (ix 0 r (nx g.Edges M[j].position M[j].edge) == (s : Int)) else some false) = some false := by
        split
        · rename_i h1
          have h1 := of_decide_eq_true h1
          congr 1
          simp; intro h2; exact hc ⟨h1, h2⟩
        · rfl
      rw [hv, Option.bind_some, if_neg (by simp)]
      refine Tot.pure ⟨hrl, ?_, hch⟩
      intro p hp
      rcases hI p hp with ⟨a, b⟩ | h
      · refine .inl ⟨a, fun m hm hlt hmp hneg => ?_⟩
        by_cases hmj : m = j
        · subst hmj
          intro hs'
          rw [← hmp] at hs' hneg a
          refine hc ⟨by omega, ?_⟩
          rcases hIq with ⟨a', _⟩ | ⟨a', _⟩
          · omega
          · omega
        · exact b m hm (by omega) hmp hneg
      · exact .inr h
  · rintro ⟨r, ch⟩ ⟨hrl, hI, hch⟩
    refine ⟨⟨hrl, ?_⟩, hch⟩
    intro p hp
    simp only at hI
    have hval : ∀ q : Int, 0 ≤ q → q < g.Edges.length → (ix 0 out q = s ↔ Di g.Edges (knR M) s q to) := by
      intro q q0 q1
      have := hA q.toNat (by omega)
      rw [show ((q.toNat : Nat) : Int) = q by omega] at this
      rcases this with ⟨j, a, b, c⟩ | ⟨a, b⟩
      · constructor
        · intro h; rw [show s = j by omega]; exact c
        · intro h; rw [b, c.uniq h]
      · constructor
        · intro h; omega
        · intro h; exact (b s (Nat.le_refl _) h).elim
    rcases hI p hp with ⟨a, b⟩ | ⟨a, b, i, c, d⟩
    · rcases hA p hp with ⟨j, h1, h2, h3⟩ | ⟨h1, h2⟩
      · exact .inl ⟨j, by omega, by rw [← h2]; exact a, h3⟩
      · refine .inr ⟨by rw [← h1]; exact a, ?_⟩
        intro j hj hd
        by_cases hjs : j ≤ s
        · exact h2 j hjs hd
        · have : j = s + 1 := by omega
          subst this
          obtain ⟨i, h3, h4⟩ := hd.src
          have hmem : (⟨(p : Int), i⟩ : Ref06_gone) ∈ M := of_decide_eq_true h3
          obtain ⟨m, hm, hmm⟩ := List.mem_iff_getElem.1 hmem
          have ⟨k1, k2, k3, k4⟩ := hk _ _ h3
          have hq := he _ _ k1 k2 k3 k4
          have := b m hm hm (by rw [hmm]) (by omega)
          rw [hmm] at this
          exact this ((hval _ hq.1 hq.2).2 h4)
    · left
      have ⟨k1, k2, k3, k4⟩ := hk _ _ c
      have hq := he _ _ k1 k2 k3 k4
      refine ⟨s + 1, Nat.le_refl _, b, ?_, ?_⟩
      · exact .cons c ((hval _ hq.1 hq.2).1 d).1
      · intro j hj hw
        obtain ⟨j', hj', hd⟩ := hw.di
        rcases hA p hp with ⟨j2, _, h2, _⟩ | ⟨_, h2⟩
        · omega
        · exact h2 j' (by omega) hd
theorem kg_ {g : Graph} {M : List Ref06_gone} {to : Int} (hk : me_ g.Edges (knR M)) (he : ez_ g.Edges) (hn : g.Edges.length ≤ 300) (hto : 0 ≤ to ∧ to < g.Edges.length) :
    Tot (F85 g M to) (FarIs g.Edges (knR M) to) := by
  unfold F85
  rw [jv_ (by omega) (by omega), Option.bind_some]
  refine Tot.bind (fun x : List Int × Int => x.1 = List.replicate g.Edges.length (-1)) ?_ ?_
  · refine cj_ (fun i (s : List Int × Int) => s.2 = i ∧ s.1.length = g.Edges.length ∧ i ≤ g.Edges.length ∧ ∀ k : Nat, k < i → s.1[k]? = some (-1)) (fun x : List Int × Int => x.1 = List.replicate g.Edges.length (-1)) g.Edges.length 0 (List.replicate (g.Edges.length : Int).toNat (0 : Int), (0 : Int)) ⟨rfl, by simp, by omega, fun k h => by omega⟩ ?_ ?_
    · rintro i ⟨s1, s2⟩ _ hi ⟨h1, h2, h3, h4⟩
      simp only at h1 h2 h4
      subst h1
      left
      simp only
      rw [if_pos (by simp; omega), de_ (by omega), Option.bind_some]
      refine ⟨_, rfl, by simp only; rw [ci_ (by omega) (by omega)]; omega, by simp [h2], by omega, ?_⟩
      intro k hk
      simp only [Int.toNat_natCast, List.getElem?_set]
      by_cases hki : i = k
      · rw [if_pos hki, if_pos (by omega)]
      · rw [if_neg hki]; exact h4 k (by omega)
    · rintro ⟨s1, s2⟩ ⟨h1, h2, h3, h4⟩
      simp only at h1 h2 h4
      refine ⟨(s1, s2), ?_, ?_⟩
      · simp only; rw [if_neg (by simp; omega)]
      · simp only
        apply List.ext_getElem?
        intro k
        by_cases hk : k < g.Edges.length
        · rw [h4 k (by omega)]; simp [hk]
        · rw [List.getElem?_eq_none (by omega), List.getElem?_eq_none (by simp; omega)]
  rintro ⟨o1, o2⟩ ho
  simp only at ho
  subst ho
  simp only
  rw [ce_ 0 hto.1 (by simp; omega), Option.bind_some]
  refine Tot.bind (fun x : List Int × Bool × Int => FarIs g.Edges (knR M) to x.1) ?_ (fun x hx => Tot.pure hx)
  have hlast : ∀ s : Nat, (∀ p, ¬ Di g.Edges (knR M) s p to) → ∀ m p, ¬ Di g.Edges (knR M) (s + m) p to := by
    intro s h m
    induction m with
    | zero => exact h
    | succ m ih => 
      intro p hd
      obtain ⟨i, _, h2⟩ := hd.src
      exact ih _ h2
  refine cj_ (fun s (x : List Int × Bool × Int) => x.2.2 = s ∧ FarTo g.Edges (knR M) to s x.1 ∧ ((x.2.1 = true ∧ ∃ p : Nat, p < g.Edges.length ∧ ix 0 x.1 p = (s : Int)) ∨ (x.2.1 = false ∧ ∀ p : Nat, p < g.Edges.length → ix 0 x.1 p ≠ (s : Int))))
    (fun x : List Int × Bool × Int => FarIs g.Edges (knR M) to x.1) (g.Edges.length + 1) 0 ((List.replicate g.Edges.length (-1 : Int)).set to.toNat 0, true, (0 : Int)) ?_ ?_ ?_
  · refine ⟨rfl, ⟨by simp, ?_⟩, .inl ⟨rfl, to.toNat, by omega, ?_⟩⟩
    · intro p hp
      simp only
      rw [gi_ _ _ _ _ _ (by simp; omega)]
      by_cases hpt : p = to.toNat
      · rw [if_pos hpt]
        refine .inl ⟨0, Nat.le_refl _, rfl, ?_⟩
        rw [show (p : Int) = to by omega]; exact .zero
      · rw [if_neg hpt]
        refine .inr ⟨by unfold ix; simp [hp], ?_⟩
        intro j hj hd
        have : j = 0 := by omega
        subst this
        have := hd.1.zero; omega
    · simp only
      rw [gi_ _ _ _ _ _ (by simp; omega), if_pos rfl]; rfl
  · rintro s ⟨out, ch, st⟩ _ _ ⟨h1, h2, h3⟩
    simp only at h1 h2 h3
    subst h1
    rcases h3 with ⟨rfl, p, hp, hps⟩ | ⟨rfl, h3⟩
    · left
      have hs : s < g.Edges.length := by
        rcases h2.2 p hp with ⟨j, _, a, b⟩ | ⟨a, _⟩
        · rw [show s = j by omega]; exact b.lt hk hto
        · omega
      obtain ⟨r, hr, hr1, hr2⟩ := ly_ hk he hn hto hs h2
      refine ⟨(r.1, r.2, ((s + 1 : Nat) : Int)), ?_, rfl, hr1, hr2⟩
      simp only [if_true]
      rw [hr, Option.bind_some, ci_ (by omega) (by omega)]; rfl
    · right
      refine ⟨(out, false, (s : Int)), by simp, h2.1, ?_⟩
      have hno : ∀ p, ¬ Di g.Edges (knR M) s p to := by
        intro p hd
        have hp : 0 ≤ p ∧ p < g.Edges.length := by
          cases s with
          | zero => rw [hd.1.zero]; exact hto
          | succ s => obtain ⟨i, h1, _⟩ := hd.src; have := hk p i h1; omega
        have h4 := h2.2 p.toNat (by omega)
        have h5 := h3 p.toNat (by omega)
        rw [show ((p.toNat : Nat) : Int) = p by omega] at h4 h5
        rcases h4 with ⟨j, _, a, b⟩ | ⟨_, b⟩
        · have := b.uniq hd; omega
        · exact b s (Nat.le_refl _) hd
      intro p hp
      rcases h2.2 p hp with ⟨j, _, a, b⟩ | ⟨a, b⟩
      · exact .inl ⟨j, a, b⟩
      · refine .inr ⟨a, fun j hd => ?_⟩
        by_cases hj : j ≤ s
        · exact b j hj hd
        · have := hlast s hno (j - s) p
          rw [show s + (j - s) = j by omega] at this
          exact this hd
  · rintro ⟨out, ch, st⟩ ⟨h1, h2, h3⟩
    simp only at h1 h2 h3
    rcases h3 with ⟨rfl, p, hp, hps⟩ | ⟨rfl, h3⟩
    · exfalso
      rcases h2.2 p hp with ⟨j, _, a, b⟩ | ⟨a, _⟩
      · have := b.lt hk hto; omega
      · omega
    · refine ⟨(out, false, st), by simp, h2.1, ?_⟩
      intro p hp
      rcases h2.2 p hp with ⟨j, _, a, b⟩ | ⟨a, b⟩
      · exact .inl ⟨j, a, b⟩
      · refine .inr ⟨a, fun j hd => b j ?_ hd⟩
        have := hd.lt hk hto; omega
end Go.Proofs.Ytogfongmnkmegaa.Pad
