/- One step of a search. -/
import Derived.Test.YtogfongmnkmegaaLawBackF
set_option linter.unusedVariables false
namespace Go.Proofs.Ytogfongmnkmegaa.Pad
open Go Go.Proofs
theorem nt_ {l : List Search_gone} {f : Search_gone → Option Bool} {p : Search_gone → Bool} (h : ∀ x ∈ l, f x = some (p x)) : F87 l f = some (idx p l) := by
  unfold F87
  rw [dr_ (p := p) (out := fun i => (i : Int)) (fun i hi => by
    rw [de_ hi, Option.bind_some, h _ (List.getElem_mem hi), Option.bind_some]
    by_cases hp : p l[i] = true <;> simp [hp])]
  unfold idx
  cases l.findIdx? p <;> rfl
theorem hb_ {α : Type} (p : α → Bool) (l : List α) (i : Nat) (h : i < l.length) (hp : p l[i] = true) (hlt : ∀ (j : Nat) (hj : j < i), p (l[j]'(by omega)) = false) :
    (l.take (i + 1)).filter (fun x => !p x) = l.take i := by
  rw [List.take_add_one, List.getElem?_eq_getElem h, Option.toList_some, List.filter_append]
  have h1 : (l.take i).filter (fun x => !p x) = l.take i := by
    apply List.filter_eq_self.2
    intro a ha
    obtain ⟨j, hj, rfl⟩ := List.mem_iff_getElem.1 ha
    simp only [List.length_take] at hj
    rw [List.getElem_take]
    rw [hlt j (by omega)]; rfl
  rw [h1]; simp [hp]
theorem F83_eq {l : List Search_gone} {f : Search_gone → Option Bool} {p : Search_gone → Bool} (h : ∀ x ∈ l, f x = some (p x)) (hl : l.length ≤ 1000) :
    F83 l f = some (l.filter (fun x => !p x)) := by
  unfold F83
  rw [nt_ h, Option.bind_some]
  rcases ei_ p l with ⟨h1, _, h2⟩ | ⟨i, hi, h1, _, h2, h3⟩
  · rw [h1, if_pos (by rfl)]
    congr 1
    exact (List.filter_eq_self.2 (fun a ha => by rw [h2 a ha]; rfl)).symm
  · rw [h1, if_neg (by simp)]
    refine Exists.elim (cj_ (body := fun (s1 : List Search_gone × Int × Int) =>
       if decide (s1.2.2 < (s1.1.length : Int)) then
       ((at? s1.1 s1.2.2).bind fun x20 =>
       (f x20).bind fun x21 =>
       if !x21 then
       ((at? s1.1 s1.2.1).bind fun x22 =>
       some (Sum.inl (s1.1.set (s1.2.1).toNat x20, w64 (s1.2.1 + 1), w64 (s1.2.2 + 1))))
       else
       (some (Sum.inl (s1.1, s1.2.1, w64 (s1.2.2 + 1)))))
       else
       (some (Sum.inr (s1.1, s1.2.1, s1.2.2)))) (fun j (s : List Search_gone × Int × Int) => j ≤ l.length ∧ s.1.length = l.length ∧ s.2.2 = j ∧ ∃ k : Nat, s.2.1 = k ∧ k < j ∧ s.1.take k = (l.take j).filter (fun x => !p x) ∧ s.1.drop j = l.drop j)
      (fun (s : List Search_gone × Int × Int) => s.1.length = l.length ∧ ∃ k : Nat, s.2.1 = k ∧ k ≤ l.length ∧ s.1.take k = l.filter (fun x => !p x)) (l.length - (i + 1)) (i + 1) (l, (i : Int), w64 ((i : Int) + 1)) ?_ ?_ ?_) ?_
    · refine ⟨by omega, rfl, by simp only; rw [ci_ (by omega) (by omega)]; omega, i, rfl, by omega, ?_, rfl⟩
      exact (hb_ p l i hi h2 h3).symm
    · rintro j ⟨s1, s2, s3⟩ hj hj' ⟨a1, a2, a3, k, a4, a5, a6, a7⟩
      simp only at a2 a3 a4 a6 a7 ⊢
      subst a3; subst a4
      left
      have hjl : j < l.length := by omega
      have hg : s1[j]'(by omega) = l[j] := by
        have := congrArg (fun x => x[0]?) a7
        simp only [List.getElem?_drop, Nat.add_zero] at this
        rw [List.getElem?_eq_getElem (by omega), List.getElem?_eq_getElem hjl] at this
        exact Option.some.inj this
      have hd : (l.take (j + 1)).filter (fun x => !p x) = (l.take j).filter (fun x => !p x) ++ (if p l[j] then [] else [l[j]]) := by
        rw [List.take_add_one, List.getElem?_eq_getElem hjl, Option.toList_some, List.filter_append]
        by_cases hp : p l[j] = true <;> simp [hp]
      have hdrop : s1.drop (j + 1) = l.drop (j + 1) := by
        have := congrArg (List.drop 1) a7
        simpa [List.drop_drop, Nat.add_comm] using this
      rw [if_pos (by simp; omega), de_ (by omega), hg, Option.bind_some, h _ (List.getElem_mem hjl), Option.bind_some, show w64 ((j : Int) + 1) = (j : Int) + 1 from ci_ (by omega) (by omega), show w64 ((k : Int) + 1) = (k : Int) + 1 from ci_ (by omega) (by omega)]
      by_cases hp : p l[j] = true
      · rw [if_neg (by simp [hp])]
        refine ⟨_, rfl, by omega, a2, by simp only; omega, k, rfl, by omega, ?_, hdrop⟩
        rw [hd, if_pos hp, List.append_nil]; exact a6
      · rw [if_pos (by simpa using hp), de_ (by omega), Option.bind_some]
        refine ⟨_, rfl, by omega, by simp [a2], by simp only; omega, k + 1, by simp only; omega, by omega, ?_, ?_⟩
        · rw [hd, if_neg hp, ← a6]
          simp only [Int.toNat_natCast]
          rw [List.take_add_one, List.take_set_of_le (Nat.le_refl _), List.getElem?_set_self (by omega)]; rfl
        · simp only [Int.toNat_natCast]
          rw [List.drop_set_of_lt (by omega)]; exact hdrop
    · rintro ⟨s1, s2, s3⟩ ⟨a1, a2, a3, k, a4, a5, a6, a7⟩
      simp only at a2 a3 a4 a6 a7 ⊢
      rw [if_neg (by simp; omega)]
      refine ⟨_, rfl, a2, k, a4, by omega, ?_⟩
      rw [a6, show i + 1 + (l.length - (i + 1)) = l.length by omega, List.take_length]
    · rintro ⟨r1, r2, r3⟩ ⟨hr, e1, k, e2, e3, e4⟩
      rw [hr, Option.bind_some]
      simp only at e1 e2 e4 ⊢
      subst e2
      have hlen : (k : Int) ≤ ((r1.take (k : Int).toNat ++ List.replicate (r1.length - (k : Int).toNat) (⟨0, 0⟩ : Search_gone)).length : Int) := by
        simp only [Int.toNat_natCast, List.length_append, List.length_take, List.length_replicate]; omega
      unfold sub?
      rw [if_pos ⟨by omega, by omega, by omega⟩, Option.bind_some, if_pos ⟨by omega, by omega, hlen⟩, Option.bind_some]
      simp only [Int.toNat_natCast, Int.toNat_zero, List.drop_zero]
      rw [List.take_append_of_le_length (by simp; omega), List.take_take, Nat.min_self, e4]
def trG (x : Search_gone) : Ref06_gone := ⟨x.position, x.edge⟩
theorem jc_ {x y : Search_gone} (h : trG x = trG y) : x = y := by
  cases x; cases y; simp [trG] at h; simp [h]
abbrev trM (M : List Search_gone) : List Ref06_gone := M.map trG
theorem mem_trM {M : List Search_gone} {p i : Int} : (⟨p, i⟩ : Ref06_gone) ∈ trM M ↔ (⟨p, i⟩ : Search_gone) ∈ M := by
  constructor
  · intro h
    obtain ⟨x, h1, h2⟩ := List.mem_map.1 h
    have : x = ⟨p, i⟩ := jc_ (by rw [h2]; rfl)
    rw [← this]; exact h1
  · intro h
    exact List.mem_map.2 ⟨_, h, rfl⟩
theorem hs_ (M : List Search_gone) : knR (trM M) = knS M := by
  funext p i
  unfold knR knS
  exact decide_eq_decide.2 mem_trM
structure MemOk (E : List (List Edge)) (M : List Search_gone) : Prop where
  nd : M.Nodup
  rng : ∀ x ∈ M, 0 ≤ x.position ∧ x.position < E.length ∧ 0 ≤ x.edge ∧ x.edge < (ba_ E x.position).length
theorem MemOk.kn {E : List (List Edge)} {M : List Search_gone} (h : MemOk E M) : me_ E (knS M) := by
  intro p i hi
  exact h.rng _ (of_decide_eq_true hi)
def ChooseIs (E : List (List Edge)) (M : List Search_gone) (p turn e : Int) : Prop :=
  (Fr_ E (knS M) p ∧ e = ey_ E (knS M) p turn) ∨
  (¬ Fr_ E (knS M) p ∧ ∃ b, BackIs E (knS M) p b ∧ ((0 ≤ b ∧ e = b) ∨ (b = -1 ∧ (⟨p, e⟩ : Search_gone) ∈ M)))
theorem F82_eq {a : Search_player} {i : Int} (h : knS a.memory a.at_ i = true) : ∃ e, F82 a = some e ∧ F72 (trM a.memory) a.at_ = some e ∧ (⟨a.at_, e⟩ : Search_gone) ∈ a.memory := by
  unfold F82 F72
  simp only
  rw [nt_ (f := fun x0_ => F88 x0_ ⟨a⟩) (p := fun x => x.position == a.at_) (fun x _ => rfl), Option.bind_some]
  have hf := dr_ (ρ := Int) (l := trM a.memory) (p := fun x => x.position == a.at_) (out := fun i => (ix (⟨0, 0⟩ : Ref06_gone) (trM a.memory) (i : Int)).edge) (body := fun i1 s1 =>
     (at? (trM a.memory) (i1 : Int)).bind fun x5 =>
     if x5.position == a.at_ then
     ((at? (trM a.memory) (i1 : Int)).bind fun x6 =>
     some (Sum.inr x6.edge))
     else
     (some (Sum.inl ()))) (fun i hi => by
    rw [de_ hi, Option.bind_some, Option.bind_some, eg_ _ hi]
    split <;> rfl)
  rw [hf]
  have hfi : (trM a.memory).findIdx? (fun x => x.position == a.at_) = a.memory.findIdx? (fun x => x.position == a.at_) := by
    rw [List.findIdx?_map]; rfl
  rw [hfi]
  rcases ei_ (fun x : Search_gone => x.position == a.at_) a.memory with ⟨_, _, h2⟩ | ⟨j, hj, h1, h2, h3, _⟩
  · have hm : (⟨a.at_, i⟩ : Search_gone) ∈ a.memory := of_decide_eq_true h
    have := h2 _ hm
    simp at this
  · rw [h1, h2, de_ hj, Option.bind_some]
    refine ⟨_, rfl, ?_, ?_⟩
    · simp only [Option.bind_some, onL]
      rw [eg_ _ (by simpa using hj)]; simp [trG]
    · have hp : a.memory[j].position = a.at_ := by simpa using h3
      rw [← hp]; exact List.getElem_mem hj
theorem mz_ {E : List (List Edge)} {kn : Int → Int → Bool} {p b : Int} (hk : me_ E kn) (h : BackIs E kn p b) : b = -1 ∨ (0 ≤ b ∧ b < (ba_ E p).length ∧ kn p b = true) := by
  rcases h with ⟨_, h⟩ | ⟨k, q, _, ⟨h, _⟩, _⟩
  · exact .inl h
  · have := hk _ _ h; exact .inr ⟨this.2.2.1, this.2.2.2, h⟩
theorem jn_ {g : Graph} {d : List Int} {a : Search_player} (hg : GoodMap g d) (hE : a.view.edges = g.Edges) (hM : MemOk g.Edges a.memory) (ht : 0 ≤ a.Mind.Turn ∧ a.Mind.Turn ≤ 99) (he : ez_ g.Edges)
    (hp : 0 ≤ a.at_ ∧ a.at_ < g.Edges.length) (hne : 0 < (ba_ g.Edges a.at_).length) :
    ∃ e x v, F68 a = some e ∧ F70 g (trM a.memory) a.at_ a.Mind.Turn = some x ∧
      (if decide (x < 0) then ((F71 g (trM a.memory) a.at_).bind fun x157 => some x157) else some x) = some v ∧
      (if decide (v < 0) then ((F72 (trM a.memory) a.at_).bind fun x159 => some x159) else some v) = some e ∧
      0 ≤ e ∧ e < (ba_ g.Edges a.at_).length ∧ ChooseIs g.Edges a.memory a.at_ a.Mind.Turn e := by
  have hrow : ∀ r ∈ g.Edges, r.length ≤ 100 := fun r hr => (hg.row r hr).1
  have hn : g.Edges.length ≤ 300 := by have := hg.el; have := hg.n2; omega
  have hr := hrow _ (eh_ [] hp.1 hp.2)
  have hkn := hM.kn
  unfold F68
  have h80 : F80 a a.at_ = some (ey_ g.Edges (knS a.memory) a.at_ a.Mind.Turn) := by
    rw [nx_ hp.1 (by rw [hE]; exact hp.2) (by rw [hE]; exact hr) ht.1 ht.2, hE]
  rw [h80, Option.bind_some, ny_ hp.1 hp.2 hr ht.1 ht.2, hs_]
  rcases dq_ g.Edges (knS a.memory) a.at_ a.Mind.Turn with ⟨hf, hf'⟩ | ⟨hf, hf1, hf2⟩
  · rw [hf, if_neg (by simp)]
    obtain ⟨b, hb, hb'⟩ := na_ (a := a) (by rw [hE]; exact hkn) (by rw [hE]; exact he) (by rw [hE]; exact hn) (by rw [hE]; exact hrow) (by rw [hE]; exact hp) (by rw [hE]; exact hf') ht
    rw [hE] at hb'
    obtain ⟨b2, hb2, hb2'⟩ := nb_ (g := g) (M := trM a.memory) (p := a.at_) (by rw [hs_]; exact hkn) he hn hrow hp (by rw [hs_]; exact hf')
    rw [hs_] at hb2'
    have := hb'.uniq hb2'
    subst this
    rw [hb, Option.bind_some]
    suffices hs : ∃ e, (if decide (0 ≤ b) then some b else (F82 a).bind fun x3 => some x3) = some e ∧ (if decide (b < 0) then ((F72 (trM a.memory) a.at_).bind fun x159 => some x159) else some b) = some e ∧
        0 ≤ e ∧ e < (ba_ g.Edges a.at_).length ∧ ChooseIs g.Edges a.memory a.at_ a.Mind.Turn e by
      obtain ⟨e, h1, h2⟩ := hs
      refine ⟨e, -1, b, h1, rfl, ?_, h2⟩
      rw [if_pos (by simp), hb2]; rfl
    rcases mz_ hkn hb' with hb0 | ⟨hb0, hb1, hb3⟩
    · subst hb0
      have hk0 : knS a.memory a.at_ 0 = true := by
        apply Classical.byContradiction
        intro hc
        exact hf' ⟨0, by omega, by omega, by simpa using hc⟩
      obtain ⟨e, h1, h2, h3⟩ := F82_eq hk0
      have hre := hM.rng _ h3
      rw [if_neg (by simp), h1, h2]
      exact ⟨e, rfl, rfl, hre.2.2.1, hre.2.2.2, .inr ⟨hf', -1, hb', .inr ⟨rfl, h3⟩⟩⟩
    · rw [if_pos (by simpa using hb0)]
      refine ⟨b, rfl, if_neg (by simp; omega), hb0, hb1, .inr ⟨hf', b, hb', .inl ⟨hb0, rfl⟩⟩⟩
  · rw [if_pos (by simpa using hf)]
    refine ⟨_, _, _, rfl, rfl, if_neg (by simp; omega), if_neg (by simp; omega), hf, hf1, .inl ⟨⟨_, hf, hf1, hf2⟩, rfl⟩⟩
def du_ (mem : Int) (M : List Search_gone) (p e : Int) : List Search_gone :=
  let l := M.filter (fun x => !decide (x = ⟨p, e⟩)) ++ [⟨p, e⟩]
  if mem < l.length then l.drop 1 else l
theorem mt_ {E : List (List Edge)} {M : List Search_gone} {mem p e : Int} (h : MemOk E M) (hp : 0 ≤ p ∧ p < E.length) (he : 0 ≤ e ∧ e < (ba_ E p).length) (hl : (M.length : Int) ≤ mem) : MemOk E (du_ mem M p e) ∧ ((du_ mem M p e).length : Int) ≤ mem := by
  have h1 : MemOk E (M.filter (fun x => !decide (x = ⟨p, e⟩)) ++ [⟨p, e⟩]) := by
    refine ⟨List.nodup_append.2 ⟨h.nd.filter _, by simp, ?_⟩, ?_⟩
    · intro a ha b hb
      rw [List.mem_singleton] at hb
      subst hb
      simp at ha
      exact ha.2
    · intro x hx
      rcases List.mem_append.1 hx with hx | hx
      · exact h.rng x (List.mem_filter.1 hx).1
      · rw [List.mem_singleton] at hx
        subst hx
        exact ⟨hp.1, hp.2, he.1, he.2⟩
  have hlen : (M.filter (fun x => !decide (x = ⟨p, e⟩)) ++ [(⟨p, e⟩ : Search_gone)]).length ≤ M.length + 1 := by
    have := List.length_filter_le (fun x => !decide (x = ⟨p, e⟩)) M
    simp; omega
  unfold du_
  simp only
  split
  · refine ⟨⟨(List.drop_sublist _ _).nodup h1.nd, fun x hx => h1.rng x (List.mem_of_mem_drop hx)⟩, ?_⟩
    rw [List.length_drop]; omega
  · exact ⟨h1, by omega⟩
theorem F69_eq {a : Search_player} {e : Int} {E : List (List Edge)} (hE : a.view.edges = E) (hp : 0 ≤ a.at_ ∧ a.at_ < E.length) (he : 0 ≤ e ∧ e < (ba_ E a.at_).length) (hl : (a.memory.length : Int) ≤ 200) :
    F69 a e = some ⟨⟨E, a.view.distances⟩, ⟨a.Mind.Memory, a.Mind.Turn⟩, nx E a.at_ e, du_ a.Mind.Memory a.memory a.at_ e⟩ := by
  unfold F69
  rw [F83_eq (f := fun x0_ => F84 x0_ ⟨a.at_, e⟩) (p := fun x => decide (x = ⟨a.at_, e⟩)) (fun x _ => rfl) (by omega), Option.bind_some]
  have hlen : (a.memory.filter (fun x => !decide (x = ⟨a.at_, e⟩)) ++ [(⟨a.at_, e⟩ : Search_gone)]).length ≤ a.memory.length + 1 := by
    have := List.length_filter_le (fun x => !decide (x = ⟨a.at_, e⟩)) a.memory
    simp; omega
  rw [el_ (by rw [← List.length_append]; omega), Option.bind_some]
  have hsub : (if decide (a.Mind.Memory < ((a.memory.filter (fun x => !decide (x = ⟨a.at_, e⟩)) ++ [(⟨a.at_, e⟩ : Search_gone)]).length : Int)) then
      ((sub? (a.memory.filter (fun x => !decide (x = ⟨a.at_, e⟩)) ++ [(⟨a.at_, e⟩ : Search_gone)]) 1 ((a.memory.filter (fun x => !decide (x = ⟨a.at_, e⟩)) ++ [(⟨a.at_, e⟩ : Search_gone)]).length : Int)).bind fun x4 => some x4)
     else some (a.memory.filter (fun x => !decide (x = ⟨a.at_, e⟩)) ++ [(⟨a.at_, e⟩ : Search_gone)])) = some (du_ a.Mind.Memory a.memory a.at_ e) := by
    unfold du_
    simp only [decide_eq_true_eq]
    split
    · unfold sub?
      rw [if_pos ⟨by omega, by simp; omega, by omega⟩, Option.bind_some, Int.toNat_natCast, List.take_length]; rfl
    · rfl
  simp only
  rw [hsub, Option.bind_some, ce_ [] hp.1 (by rw [hE]; exact hp.2), Option.bind_some, hE, ce_ z0 he.1 he.2, Option.bind_some]
  rfl
theorem lh_ {M : List Ref06_gone} {x : Ref06_gone} (h : M.Nodup) (hl : M.length ≤ 1000) :
    ((F73 M x).bind fun x165 =>
 if decide (0 ≤ x165) then
 ((sub? M 0 x165).bind fun x166 =>
 (push? ([] : List Ref06_gone) x166).bind fun x167 =>
 (sub? M (w64 (x165 + 1)) (M.length : Int)).bind fun x168 =>
 (push? x167 x168).bind fun x169 =>
 some x169)
 else
 (some M)) = some (M.filter (fun y => !decide (y = x))) := by
  rw [mg_, Option.bind_some]
  rcases ei_ (fun y => decide (y = x)) M with ⟨h1, _, h2⟩ | ⟨i, hi, h1, _, h2, h3⟩
  · rw [h1, if_neg (by simp)]
    congr 1
    exact (List.filter_eq_self.2 (fun a ha => by rw [h2 a ha]; rfl)).symm
  · rw [h1, if_pos (by simp)]
    have hs1 : sub? M 0 (i : Int) = some (M.take i) := by
      unfold sub?; rw [if_pos ⟨by omega, by omega, by omega⟩]; simp
    have hs2 : sub? M ((i : Int) + 1) (M.length : Int) = some (M.drop (i + 1)) := by
      unfold sub?; rw [if_pos ⟨by omega, by omega, by omega⟩, Int.toNat_natCast, List.take_length]; rfl
    rw [hs1, Option.bind_some, el_ (by simp; omega), Option.bind_some, ci_ (by omega) (by omega), hs2, Option.bind_some, el_ (by simp; omega), Option.bind_some]
    congr 1
    have hx : M[i] = x := by simpa using h2
    have hsplit : M = M.take i ++ M[i] :: M.drop (i + 1) := by
      rw [← List.drop_eq_getElem_cons hi, List.take_append_drop]
    have hnd := h
    rw [hsplit] at hnd
    have e1 : (M.take i).filter (fun y => !decide (y = x)) = M.take i := by
      apply List.filter_eq_self.2
      intro a ha
      obtain ⟨j, hj, rfl⟩ := List.mem_iff_getElem.1 ha
      simp only [List.length_take] at hj
      rw [List.getElem_take, h3 j (by omega)]; rfl
    have e2 : (M.drop (i + 1)).filter (fun y => !decide (y = x)) = M.drop (i + 1) := by
      apply List.filter_eq_self.2
      intro a ha
      have := (List.nodup_cons.1 (List.nodup_append.1 hnd).2.1).1
      rw [hx] at this
      have : a ≠ x := fun e => this (e ▸ ha)
      simp [this]
    refine Eq.trans ?_ (congrArg (List.filter (fun y => !decide (y = x))) hsplit).symm
    rw [List.filter_append, List.filter_cons, e1, e2, hx]; simp
theorem lx_ (M : List Search_gone) (p e : Int) : (trM M).filter (fun y => !decide (y = ⟨p, e⟩)) = trM (M.filter (fun y => !decide (y = ⟨p, e⟩))) := by
  unfold trM
  rw [List.filter_map]
  congr 1
  apply List.filter_congr
  intro x _
  simp only [Function.comp]
  congr 1
  refine decide_eq_decide.2 ⟨fun h => jc_ (h.trans rfl), fun h => by rw [h]; rfl⟩
end Go.Proofs.Ytogfongmnkmegaa.Pad
