/- Wrong, Widths, Choices of both. -/
import Derived.Test.YtogfongmnkmegaaLawReaches
set_option linter.unusedVariables false
namespace Go.Proofs.Ytogfongmnkmegaa.Pad
open Go Go.Proofs

def nearB (d : List Int) (p : Int) (e : Edge) : Bool := decide (0 < dA d p) && decide (dA d e.To = dA d p - 1)
section
variable {g : Graph} {d : List Int}
theorem GoodMap.to (hg : GoodMap g d) {p : Int} (hp : 0 ≤ p ∧ p < g.Edges.length) {e : Edge} (he : e ∈ rowOf g.Edges p) : 0 ≤ e.To ∧ e.To < d.length := by
  have := (hg.row _ (row_mem (g := g) hp.1 hp.2)).2 e he
  have := hg.dl; omega
theorem GoodMap.val (hg : GoodMap g d) {p : Int} (hp : 0 ≤ p ∧ p < d.length) : -1 ≤ dA d p ∧ dA d p < d.length ∧ dA d p < 300 := by
  have h : -1 ≤ dA d p ∧ dA d p < g.Positions.length := hg.bnd _ (ix_mem 0 hp.1 hp.2)
  have := hg.dl; have := hg.n2; omega
theorem GoodMap.len (hg : GoodMap g d) {p : Int} (hp : 0 ≤ p ∧ p < g.Edges.length) : (rowOf g.Edges p).length ≤ 100 := (hg.row _ (row_mem (g := g) hp.1 hp.2)).1
theorem GoodMap.down (hg : GoodMap g d) {p : Int} (hp : 0 ≤ p ∧ p < g.Edges.length) (h : 0 < dA d p) : ∃ e ∈ rowOf g.Edges p, nearB d p e = true := by
  have hel := hg.el
  have hw := hg.dist p.toNat (by omega)
  rw [show ((p.toNat : Nat) : Int) = p by omega] at hw
  rcases hw with hw | ⟨_, hw⟩ | ⟨e, he, _, hw, _⟩
  · omega
  · omega
  · refine ⟨e, he, ?_⟩
    unfold nearB
    simp only [Bool.and_eq_true, decide_eq_true_eq]; omega
theorem F58_eq (hg : GoodMap g d) {p : Int} (hp : 0 ≤ p ∧ p < g.Edges.length) {e : Edge} (he : e ∈ rowOf g.Edges p) : F58 ⟨g.Edges, d⟩ p e = some (nearB d p e) := by
  have hel := hg.el; have hdl := hg.dl
  have hto := hg.to hp he
  have hv := hg.val (p := p) (by omega)
  have hatd : at? d p = some (dA d p) := at?_ix 0 hp.1 (by omega)
  have hatt : at? d e.To = some (dA d e.To) := at?_ix 0 hto.1 hto.2
  unfold F58 nearB
  simp only
  rw [hatd, Option.bind_some, hatt, Option.bind_some]
  by_cases h : 0 < dA d p
  · rw [if_pos (by simpa using h), w64_eq (by omega) (by omega), decide_eq_true h, Bool.true_and]; rfl
  · rw [if_neg (by simpa using h), decide_eq_false h, Bool.false_and]
theorem F64_eq (hg : GoodMap g d) {p i : Int} (hp : 0 ≤ p ∧ p < g.Edges.length) (hi : 0 ≤ i ∧ i < (rowOf g.Edges p).length) : F64 g d p i = some (nearB d p (ix z0 (rowOf g.Edges p) i)) := by
  have hel := hg.el; have hdl := hg.dl
  have hto := hg.to hp (ix_mem z0 hi.1 hi.2)
  have hv := hg.val (p := p) (by omega)
  have hatE : at? g.Edges p = some (rowOf g.Edges p) := at?_ix [] hp.1 hp.2
  have hatd : at? d p = some (dA d p) := at?_ix 0 hp.1 (by omega)
  have hatt : at? d (ix z0 (rowOf g.Edges p) i).To = some (dA d (ix z0 (rowOf g.Edges p) i).To) := at?_ix 0 hto.1 hto.2
  unfold F64 nearB
  rw [hatd, Option.bind_some, hatE, Option.bind_some, at?_ix z0 hi.1 hi.2, Option.bind_some, hatt, Option.bind_some]
  by_cases h : 0 < dA d p
  · rw [if_pos (by simpa using h), w64_eq (by omega) (by omega), decide_eq_true h, Bool.true_and]; rfl
  · rw [if_neg (by simpa using h), decide_eq_false h, Bool.false_and]

/-! ## Wrong -/
def wrongN (E : List (List Edge)) (d : List Int) (p : Int) : Nat := (rowOf E p).countP (fun e => !nearB d p e)
def WrongIs (g : Graph) (d : List Int) (l : List Int) : Prop := l.length = g.Edges.length ∧ ∀ p : Nat, p < g.Edges.length → ix 0 l p = wrongN g.Edges d p
theorem WrongIs.uniq {l l' : List Int} (h : WrongIs g d l) (h' : WrongIs g d l') : l = l' := by
  apply List.ext_getElem (by rw [h.1, h'.1])
  intro i a b
  have := h.2 i (by rw [← h.1]; exact a)
  have := h'.2 i (by rw [← h.1]; exact a)
  rw [ix_nat 0 a] at *
  rw [ix_nat 0 b] at *
  omega
theorem countP_take_succ {α : Type} (f : α → Bool) (l : List α) {j : Nat} (h : j < l.length) : (l.take (j + 1)).countP f = (l.take j).countP f + if f l[j] then 1 else 0 := by
  rw [List.take_add_one, List.getElem?_eq_getElem h, Option.toList_some, List.countP_append, List.countP_singleton]
/-- What stands behind i edges of a position. -/
def WSt (E : List (List Edge)) (d : List Int) (n : Nat) (j i : Nat) (l : List Int) : Prop :=
  l.length = n ∧ (∀ p : Nat, p < j → ix 0 l p = wrongN E d p) ∧ ix 0 l j = (((rowOf E (j : Int)).take i).countP (fun e => !nearB d (j : Int) e) : Nat) ∧ ∀ p : Nat, j < p → p < n → ix 0 l p = 0
theorem WSt.bump {E : List (List Edge)} {n j i : Nat} {l : List Int} (h : WSt E d n j i l) (hj : j < n) (hi : i < (rowOf E (j : Int)).length) (hn : nearB d j (rowOf E (j : Int))[i] = false) : WSt E d n j (i + 1) (l.set j (ix 0 l j + 1)) := by
  obtain ⟨a, b, c, e⟩ := h
  refine ⟨by simp [a], ?_, ?_, ?_⟩
  · intro p hp; rw [ix_set _ _ _ _ _ (by omega), if_neg (by omega)]; exact b p hp
  · rw [ix_set _ _ _ _ _ (by omega), if_pos rfl, c, countP_take_succ _ _ hi, hn]; simp
  · intro p hp hp'; rw [ix_set _ _ _ _ _ (by omega), if_neg (by omega)]; exact e p hp hp'
theorem WSt.keep {E : List (List Edge)} {n j i : Nat} {l : List Int} (h : WSt E d n j i l) (hi : i < (rowOf E (j : Int)).length) (hn : nearB d j (rowOf E (j : Int))[i] = true) : WSt E d n j (i + 1) l := by
  obtain ⟨a, b, c, e⟩ := h
  refine ⟨a, b, ?_, e⟩
  rw [c, countP_take_succ _ _ hi, hn]; simp
def WOut (E : List (List Edge)) (d : List Int) (n : Nat) (j : Nat) (l : List Int) : Prop :=
  l.length = n ∧ (∀ p : Nat, p < j → ix 0 l p = wrongN E d p) ∧ ∀ p : Nat, j ≤ p → p < n → ix 0 l p = 0
theorem WOut.start {E : List (List Edge)} {n j : Nat} {l : List Int} (h : WOut E d n j l) (hj : j < n) : WSt E d n j 0 l := by
  obtain ⟨a, b, c⟩ := h
  exact ⟨a, b, by rw [c j (Nat.le_refl _) hj]; simp, fun p hp hp' => c p (by omega) hp'⟩
theorem WSt.stop {E : List (List Edge)} {n j : Nat} {l : List Int} (h : WSt E d n j (rowOf E (j : Int)).length l) : WOut E d n (j + 1) l := by
  obtain ⟨a, b, c, e⟩ := h
  rw [List.take_length] at c
  refine ⟨a, ?_, fun p hp hp' => e p (by omega) hp'⟩
  intro p hp
  by_cases hpj : p = j
  · subst hpj; exact c
  · exact b p (by omega)
theorem WSt.le {E : List (List Edge)} {n j i : Nat} {l : List Int} (h : WSt E d n j i l) (hl : (rowOf E (j : Int)).length ≤ 100) : 0 ≤ ix 0 l j ∧ ix 0 l j ≤ 100 := by
  have : ((rowOf E (j : Int)).take i).countP (fun e => !nearB d (j : Int) e) ≤ ((rowOf E (j : Int)).take i).length := List.countP_le_length
  rw [List.length_take] at this
  have := h.2.2.1
  omega
theorem WOut.mk0 {E : List (List Edge)} (n : Nat) : WOut E d n 0 (List.replicate n 0) := by
  refine ⟨by simp, fun p hp => by omega, fun p _ hp => ?_⟩
  rw [ix_nat 0 (by simpa using hp)]; simp
theorem F34_spec (g : Graph) (d : List Int) : Tot (F34 g d) (fun r => (r.2 = 60 ∧ ¬ GoodMap g d ∧ r.1 = []) ∨ (r.2 = 0 ∧ GoodMap g d ∧ WrongIs g d r.1)) := by
  unfold F34
  refine Tot.bind _ (F57_spec g d) ?_
  rintro ⟨v, e⟩ ⟨rfl, h⟩
  simp only at h ⊢
  rcases h with ⟨rfl, hg⟩ | ⟨rfl, hg⟩
  rotate_left
  · rw [if_pos (by simp)]; exact Tot.pure (.inl ⟨rfl, hg, rfl⟩)
  have hel := hg.el; have hdl := hg.dl; have hn2 := hg.n2
  rw [if_neg (by simp), mk?_le (by omega) (by omega), Option.bind_some, Int.toNat_natCast]
  refine Tot.bind (fun l => WOut g.Edges d g.Edges.length g.Edges.length l) (Tot.forS (fun j l => WOut g.Edges d g.Edges.length j l) (by rw [show d.length = g.Edges.length by omega]; exact WOut.mk0 _) ?_) (fun l hl => Tot.pure (.inr ⟨rfl, hg, hl.1, fun p hp => hl.2.1 p hp⟩))
  intro j l hj hI
  have hat : at? g.Edges (j : Int) = some (rowOf g.Edges j) := at?_ix [] (by omega) (by omega)
  have hlen := hg.len (p := (j : Int)) (by omega)
  rw [hat, Option.bind_some]
  refine Tot.bind _ (Tot.forS (fun i l => WSt g.Edges d g.Edges.length j i l) (hI.start hj) ?_) (fun l hl => Tot.pure hl.stop)
  intro i l hi hS
  have hb := hS.le hlen
  rw [at?_lt hi, Option.bind_some, F58_eq hg (by omega) (List.getElem_mem hi), Option.bind_some]
  have hat' : at? l (j : Int) = some (ix 0 l j) := at?_ix 0 (by omega) (by rw [hS.1]; omega)
  cases hn : nearB d (j : Int) (rowOf g.Edges (j : Int))[i] with
  | true => simp only [Bool.not_true, Bool.false_eq_true, if_false]; exact Tot.pure (hS.keep hi hn)
  | false =>
    simp only [Bool.not_false, if_true]
    rw [hat', Option.bind_some, Option.bind_some, w64_eq (by omega) (by omega)]
    exact Tot.pure (hS.bump hj hi hn)
theorem F39_spec (g : Graph) (d : List Int) : Tot (F39 g d) (fun r => (r.2 = 60 ∧ ¬ GoodMap g d ∧ r.1 = []) ∨ (r.2 = 0 ∧ GoodMap g d ∧ WrongIs g d r.1)) := by
  unfold F39
  refine Tot.bind _ (F21_spec g d) ?_
  intro e h
  rcases h with ⟨rfl, hg⟩ | ⟨rfl, hg⟩
  rotate_left
  · rw [if_pos (by simp)]; exact Tot.pure (.inl ⟨rfl, hg, rfl⟩)
  have hel := hg.el; have hdl := hg.dl; have hn2 := hg.n2
  rw [if_neg (by simp), mk?_le (by omega) (by omega), Option.bind_some, Int.toNat_natCast]
  refine Tot.bind (fun l => WOut g.Edges d g.Edges.length g.Edges.length l) (Tot.mono (Tot.forS (fun j l => WOut g.Edges d g.Edges.length j l) (by rw [show d.length = g.Edges.length by omega]; exact WOut.mk0 _) ?_) (fun l hl => by rw [show d.length = g.Edges.length by omega] at hl; exact hl)) (fun l hl => Tot.pure (.inr ⟨rfl, hg, hl.1, fun p hp => hl.2.1 p hp⟩))
  intro j l hj hI
  have hj' : j < g.Edges.length := by omega
  have hat : at? g.Edges (j : Int) = some (rowOf g.Edges j) := at?_ix [] (by omega) (by omega)
  have hlen := hg.len (p := (j : Int)) (by omega)
  refine Tot.bind (fun s : List Int × Int => WSt g.Edges d g.Edges.length j (rowOf g.Edges (j : Int)).length s.1) ?_ (fun s hs => Tot.pure hs.stop)
  refine whileO_inv (fun i (s : List Int × Int) => s.2 = i ∧ i ≤ (rowOf g.Edges (j : Int)).length ∧ WSt g.Edges d g.Edges.length j i s.1) (fun s : List Int × Int => WSt g.Edges d g.Edges.length j (rowOf g.Edges (j : Int)).length s.1) (rowOf g.Edges (j : Int)).length 0 (l, (0 : Int)) ⟨rfl, by omega, hI.start hj'⟩ ?_ ?_
  · rintro i ⟨l, t⟩ _ hi ⟨h1, h2, hS⟩
    simp only at h1 hS ⊢
    subst h1
    have hi' : i < (rowOf g.Edges (j : Int)).length := by omega
    have hb := hS.le hlen
    left
    rw [hat, Option.bind_some, if_pos (by simpa using hi'), F64_eq hg (by omega) (by omega), Option.bind_some, ix_nat z0 hi']
    have hat' : at? l (j : Int) = some (ix 0 l j) := at?_ix 0 (by omega) (by rw [hS.1]; omega)
    cases hn : nearB d (j : Int) (rowOf g.Edges (j : Int))[i] with
    | true =>
      simp only [Bool.not_true, Bool.false_eq_true, if_false]
      exact ⟨_, rfl, by simp only; rw [w64_eq (by omega) (by omega)]; omega, by omega, hS.keep hi' hn⟩
    | false =>
      simp only [Bool.not_false, if_true]
      rw [hat', Option.bind_some, Option.bind_some, show w64 (ix 0 l (j : Int) + 1) = ix 0 l (j : Int) + 1 from w64_eq (by omega) (by omega)]
      exact ⟨_, rfl, by simp only; rw [w64_eq (by omega) (by omega)]; omega, by omega, hS.bump hj' hi' hn⟩
  · rintro ⟨l, t⟩ ⟨h1, h2, hS⟩
    simp only at h1 hS ⊢
    rw [hat, Option.bind_some, if_neg (by simp; omega)]
    exact ⟨_, rfl, by simpa using hS⟩

/-! ## Widths -/
def widthN (d : List Int) (v : Int) : Nat := d.countP (fun x => decide (x = v))
def WidthsIs (d : List Int) (l : List Int) : Prop := ∃ m : Int, m ∈ d ∧ (∀ x ∈ d, x ≤ m) ∧ (l.length : Int) = m + 1 ∧ ∀ v : Nat, v < l.length → ix 0 l v = widthN d v
theorem WidthsIs.uniq {d l l' : List Int} (h : WidthsIs d l) (h' : WidthsIs d l') : l = l' := by
  obtain ⟨m, a, b, c, e⟩ := h
  obtain ⟨m', a', b', c', e'⟩ := h'
  have := b _ a'
  have := b' _ a
  apply List.ext_getElem (by omega)
  intro i x y
  have h1 := e i x
  have h2 := e' i y
  rw [ix_nat 0 x] at h1
  rw [ix_nat 0 y] at h2
  omega
theorem widths_loop (hg : GoodMap g d) {m : Int} (hm : m ∈ d) (hmx : ∀ x ∈ d, x ≤ m) : Tot (forS (σ := (List Int)) (fun i1 s1 =>
 (at? d (i1 : Int)).bind fun x13 =>
 if decide (0 ≤ x13) then
 ((at? s1 x13).bind fun x14 =>
 (at? s1 x13).bind fun x15 =>
 some (s1.set (x13).toNat (w64 (x14 + 1))))
 else
 (some s1)) d.length 0 (List.replicate (m + 1).toNat 0)) (WidthsIs d) := by
  have hmb := hg.bnd m hm
  have hn2 := hg.n2; have hdl := hg.dl
  refine Tot.mono (Tot.forS (fun j (l : List Int) => (l.length : Int) = m + 1 ∧ ∀ v : Nat, v < l.length → ix 0 l v = (d.take j).countP (fun x => decide (x = (v : Int)))) ⟨by rw [List.length_replicate]; omega, ?_⟩ ?_) ?_
  · intro v hv
    rw [ix_nat 0 hv]; simp
  · intro j l hj ⟨h1, h2⟩
    rw [at?_lt hj, Option.bind_some]
    have hx := hmx _ (List.getElem_mem hj)
    have hx' := hg.bnd _ (List.getElem_mem hj)
    by_cases h0 : 0 ≤ d[j]
    · have hat : at? l d[j] = some (ix 0 l d[j]) := at?_ix 0 h0 (by omega)
      rw [if_pos (by simpa using h0), hat, Option.bind_some, Option.bind_some]
      have h3 := h2 d[j].toNat (by omega)
      rw [show ((d[j].toNat : Nat) : Int) = d[j] by omega] at h3
      have hc : (d.take j).countP (fun x => decide (x = d[j])) ≤ (d.take j).length := List.countP_le_length
      rw [List.length_take] at hc
      rw [w64_eq (by omega) (by omega)]
      refine Tot.pure ⟨by simp [h1], ?_⟩
      intro v hv
      rw [List.length_set] at hv
      rw [ix_set _ _ _ _ _ (by omega), countP_take_succ _ _ hj]
      by_cases hv2 : v = d[j].toNat
      · rw [if_pos hv2, h3, show (v : Int) = d[j] by omega]; simp
      · rw [if_neg hv2, h2 v hv, if_neg (by simp; omega)]; simp
    · rw [if_neg (by simpa using h0)]
      refine Tot.pure ⟨h1, ?_⟩
      intro v hv
      rw [h2 v hv, countP_take_succ _ _ hj, if_neg (by simp; omega)]; simp
  · intro l ⟨h1, h2⟩
    refine ⟨m, hm, hmx, h1, fun v hv => ?_⟩
    rw [h2 v hv, List.take_length]; rfl
theorem F33_spec (g : Graph) (d : List Int) : Tot (F33 g d) (fun r => (r.2 = 60 ∧ ¬ GoodMap g d ∧ r.1 = []) ∨ (r.2 = 0 ∧ GoodMap g d ∧ WidthsIs d r.1)) := by
  unfold F33
  refine Tot.bind _ (F57_spec g d) ?_
  rintro ⟨v, e⟩ ⟨rfl, h⟩
  simp only at h ⊢
  rcases h with ⟨rfl, hg⟩ | ⟨rfl, hg⟩
  rotate_left
  · rw [if_pos (by simp)]; exact Tot.pure (.inl ⟨rfl, hg, rfl⟩)
  have hel := hg.el; have hdl := hg.dl; have hn2 := hg.n2; have hn1 := hg.n1
  rw [if_neg (by simp)]
  refine Tot.bind _ (F52_spec (l := d) (by omega) (by omega)) ?_
  rintro m ⟨⟨k, hk, rfl⟩, hmx⟩
  have hmem : d[k] ∈ d := List.getElem_mem hk
  have hb := hg.bnd _ hmem
  rw [w64_eq (by omega) (by omega), mk?_le (by omega) (by omega), Option.bind_some]
  refine Tot.bind _ (widths_loop hg hmem (fun x hx => ?_)) (fun l hl => Tot.pure (.inr ⟨rfl, hg, hl⟩))
  obtain ⟨i, hi, rfl⟩ := List.mem_iff_getElem.1 hx
  exact hmx i hi
theorem F40_spec (g : Graph) (d : List Int) : Tot (F40 g d) (fun r => (r.2 = 60 ∧ ¬ GoodMap g d ∧ r.1 = []) ∨ (r.2 = 0 ∧ GoodMap g d ∧ WidthsIs d r.1)) := by
  unfold F40
  refine Tot.bind _ (F21_spec g d) ?_
  intro e h
  rcases h with ⟨rfl, hg⟩ | ⟨rfl, hg⟩
  rotate_left
  · rw [if_pos (by simp)]; exact Tot.pure (.inl ⟨rfl, hg, rfl⟩)
  have hel := hg.el; have hdl := hg.dl; have hn2 := hg.n2; have hn1 := hg.n1
  rw [if_neg (by simp)]
  refine Tot.bind (fun m => m ∈ d ∧ ∀ x ∈ d, x ≤ m) ?_ ?_
  · refine Tot.mono (Tot.forS (fun j m => (m = -1 ∧ j = 0 ∨ m ∈ d) ∧ -1 ≤ m ∧ ∀ i (h : i < d.length), i < j → d[i] ≤ m) ⟨.inl ⟨rfl, rfl⟩, by omega, fun i _ h => by omega⟩ ?_) ?_
    · intro j m hj ⟨h1, h2, h3⟩
      rw [at?_lt hj, Option.bind_some]
      have hx := hg.bnd _ (List.getElem_mem hj)
      have hm := maxI_ge m d[j]
      refine Tot.pure ⟨?_, by omega, ?_⟩
      · right
        by_cases hd : d[j] = -1 ∧ m = -1
        · have : maxI m d[j] = d[j] := by omega
          rw [this]; exact List.getElem_mem hj
        · rcases hm.2.2 with e | e
          · rcases h1 with ⟨h1, _⟩ | h1
            · have : maxI m d[j] = d[j] := by omega
              rw [this]; exact List.getElem_mem hj
            · rw [e]; exact h1
          · rw [e]; exact List.getElem_mem hj
      · intro i hi hij
        by_cases e : i = j
        · subst e; exact hm.2.1
        · have := h3 i hi (by omega); omega
    · intro m ⟨h1, h2, h3⟩
      refine ⟨?_, fun x hx => ?_⟩
      · rcases h1 with ⟨_, h1⟩ | h1
        · omega
        · exact h1
      · obtain ⟨i, hi, rfl⟩ := List.mem_iff_getElem.1 hx
        exact h3 i hi hi
  rintro m ⟨hmem, hmx⟩
  have hb := hg.bnd _ hmem
  rw [w64_eq (by omega) (by omega), mk?_le (by omega) (by omega), Option.bind_some]
  have hbody : (fun (i2 : Nat) (s2 : List Int) =>
     (at? d (i2 : Int)).bind fun x19 =>
     if decide (0 ≤ x19) then
     ((at? d (i2 : Int)).bind fun x20 =>
     (at? s2 x20).bind fun x21 =>
     (at? s2 x20).bind fun x22 =>
     some (s2.set (x20).toNat (w64 (x21 + 1))))
     else
     (some s2)) = (fun (i1 : Nat) (s1 : List Int) =>
     (at? d (i1 : Int)).bind fun x13 =>
     if decide (0 ≤ x13) then
     ((at? s1 x13).bind fun x14 =>
     (at? s1 x13).bind fun x15 =>
     some (s1.set (x13).toNat (w64 (x14 + 1))))
     else
     (some s1)) := by
    funext i s
    cases at? d (i : Int) <;> rfl
  rw [hbody]
  exact Tot.bind _ (widths_loop hg hmem hmx) (fun l hl => Tot.pure (.inr ⟨rfl, hg, hl⟩))

/-! ## Choices -/
def ChoicesIs (g : Graph) (d : List Int) (r : List Int × Int) : Prop :=
  (r = ([], 60) ∧ ¬ GoodMap g d) ∨ (GoodMap g d ∧ ((r = ([], 3) ∧ dA d 0 < 0) ∨ (r.2 = 0 ∧ 0 ≤ dA d 0 ∧ (r.1.length : Int) = dA d 0 ∧ ∀ x ∈ r.1, 1 ≤ x)))
theorem F35_F41 (g : Graph) (d : List Int) : ∃ r, F35 g d = some r ∧ F41 g d = some r ∧ ChoicesIs g d r := by
  unfold F35 F41
  obtain ⟨⟨v, e⟩, h1, h2, h3⟩ := F57_spec g d
  obtain ⟨e', h4, h5⟩ := F21_spec g d
  simp only at h2 h3
  subst h2
  rw [h1, h4, Option.bind_some, Option.bind_some]
  rcases h3 with ⟨rfl, hg⟩ | ⟨rfl, hg⟩ <;> rcases h5 with ⟨rfl, hg'⟩ | ⟨rfl, hg'⟩
  rotate_left
  · exact (hg' hg).elim
  · exact (hg hg').elim
  · exact ⟨([], 60), by simp, by simp, .inl ⟨rfl, hg⟩⟩
  have hel := hg.el; have hdl := hg.dl; have hn2 := hg.n2; have hn1 := hg.n1
  have hat0 : at? d 0 = some (dA d 0) := at?_ix 0 (by omega) (by omega)
  have hv0 := hg.val (p := 0) (by omega)
  simp only
  rw [if_neg (by simp), if_neg (by simp), hat0, Option.bind_some, Option.bind_some]
  by_cases hd : dA d 0 < 0
  · rw [if_pos (by simp; omega), if_pos (by simpa using hd)]
    exact ⟨([], 3), rfl, rfl, .inr ⟨hg, .inl ⟨rfl, hd⟩⟩⟩
  rw [if_neg (by simp; omega), if_neg (by simpa using hd)]
  obtain ⟨r, r', w1, w2, rfl, w3, w4⟩ := whileO_inv2 (b := fun (s1 : List Int × Int) =>
     (at? d s1.2).bind fun x33 =>
     if decide (0 < x33) then
     ((at? g.Edges s1.2).bind fun x34 =>
     (push? s1.1 ([(x34.length : Int)] : List Int)).bind fun x35 =>
     (F59 x34 (fun x0_ => F60 x0_ (⟨g.Edges, d⟩ : Search_view) (s1.2))).bind fun x36 =>
     (at? x34 x36).bind fun x37 =>
     some (Sum.inl (x35, x37.To)))
     else
     (some (Sum.inr (s1.1, s1.2)))) (c := fun (s7 : List Int × Int) =>
     (at? d s7.2).bind fun x75 =>
     if decide (0 < x75) then
     ((at? g.Edges s7.2).bind fun x76 =>
     (push? s7.1 ([(x76.length : Int)] : List Int)).bind fun x77 =>
     (whileO (σ := (Int)) (ρ := (Int)) (fun s8 =>
     (F64 g d s7.2 s8).bind fun x84 =>
     if !x84 then
     (some (Sum.inl (w64 (s8 + 1))))
     else
     (some (Sum.inr s8))) 0).bind fun out8 =>
     (at? g.Edges s7.2).bind fun x85 =>
     (at? x85 out8).bind fun x86 =>
     some (Sum.inl (x77, x86.To)))
     else
     (some (Sum.inr (s7.1, s7.2)))) (fun i s t => s = t ∧ (0 ≤ s.2 ∧ s.2 < g.Edges.length) ∧ dA d s.2 = dA d 0 - i ∧ s.1.length = i ∧ (i : Int) ≤ dA d 0 ∧ ∀ x ∈ s.1, 1 ≤ x)
     (fun s t => s = t ∧ (s.1.length : Int) = dA d 0 ∧ ∀ x ∈ s.1, 1 ≤ x) (dA d 0).toNat 0 (([] : List Int), (0 : Int)) (([] : List Int), (0 : Int)) ⟨rfl, ⟨by omega, by simp only; omega⟩, by simp, rfl, by omega, by simp⟩ (by
      rintro i ⟨l, p⟩ _ _ hi ⟨rfl, hp, hdp, hl, hle, hx⟩
      simp only at hp hdp hl hx ⊢
      left
      have hatE : at? g.Edges p = some (rowOf g.Edges p) := at?_ix [] hp.1 hp.2
      have hatd : at? d p = some (dA d p) := at?_ix 0 hp.1 (by omega)
      have hpos : 0 < dA d p := by omega
      obtain ⟨e, he, hne⟩ := hg.down hp hpos
      have hlen := hg.len hp
      simp only [hatd, hatE, Option.bind_some, decide_eq_true hpos, if_true]
      rw [push?_le (by simp; omega), Option.bind_some, Option.bind_some]
      rw [F59_eq (p := fun e => nearB d p e) (fun x hx => by unfold F60; rw [F58_eq hg hp hx]; rfl), Option.bind_some]
      rcases idx_cases (fun e => nearB d p e) (rowOf g.Edges p) with ⟨_, _, h2⟩ | ⟨k, hk, h1, _, h2, h3⟩
      · rw [h2 e he] at hne; cases hne
      · have hinner : whileO (σ := (Int)) (ρ := (Int)) (fun s8 =>
           (F64 g d p s8).bind fun x84 =>
           if !x84 then
           (some (Sum.inl (w64 (s8 + 1))))
           else
           (some (Sum.inr s8))) 0 = some (k : Int) := by
          obtain ⟨r, a, b⟩ := whileO_inv (σ := Int) (ρ := Int) (body := fun s8 =>
             (F64 g d p s8).bind fun x84 =>
             if !x84 then
             (some (Sum.inl (w64 (s8 + 1))))
             else
             (some (Sum.inr s8))) (fun j s => s = (j : Int) ∧ j ≤ k) (fun r => r = (k : Int)) k 0 0 ⟨rfl, by omega⟩ (by
              rintro j _ _ hj ⟨rfl, _⟩
              left
              rw [F64_eq hg hp (by omega), Option.bind_some, ix_nat z0 (by omega), h3 j (by omega)]
              exact ⟨_, rfl, by rw [w64_eq (by omega) (by omega)]; omega, by omega⟩) (by
              rintro _ ⟨rfl, _⟩
              rw [Nat.zero_add, F64_eq hg hp (by omega), Option.bind_some, ix_nat z0 hk, h2]
              exact ⟨_, rfl, rfl⟩)
          rw [a, b]
        rw [h1, hinner, Option.bind_some, at?_lt hk, Option.bind_some]
        have hto := hg.to hp (List.getElem_mem hk)
        have hnd : dA d (rowOf g.Edges p)[k].To = dA d p - 1 := by
          unfold nearB at h2
          simp only [Bool.and_eq_true, decide_eq_true_eq] at h2
          exact h2.2
        refine ⟨_, _, rfl, rfl, rfl, ⟨hto.1, by simp only; omega⟩, by simp only; omega, by simp [hl], by omega, ?_⟩
        intro x hx'
        rcases List.mem_append.1 hx' with hx' | hx'
        · exact hx x hx'
        · rw [List.mem_singleton] at hx'
          rw [hx']; omega) (by
      rintro ⟨l, p⟩ _ ⟨rfl, hp, hdp, hl, hle, hx⟩
      simp only at hp hdp hl hx ⊢
      have hatd : at? d p = some (dA d p) := at?_ix 0 hp.1 (by omega)
      have hpos : ¬ 0 < dA d p := by omega
      rw [hatd, Option.bind_some, Option.bind_some, if_neg (by simpa using hpos), if_neg (by simpa using hpos)]
      exact ⟨_, _, rfl, rfl, rfl, by simp only; omega, hx⟩)
  refine ⟨(r.1, 0), ?_, ?_, .inr ⟨hg, .inr ⟨rfl, by omega, w3, w4⟩⟩⟩
  · exact Eq.trans (congrArg (fun o => Option.bind o _) w1) rfl
  · exact Eq.trans (congrArg (fun o => Option.bind o _) w2) rfl
end
end Go.Proofs.Ytogfongmnkmegaa.Pad
