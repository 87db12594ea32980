/- Wrong, Widths, Choices of both. -/
import Derived.Test.YtogfongmnkmegaaLawReaches
set_option linter.unusedVariables false
namespace Go.Proofs.Ytogfongmnkmegaa.Pad
open Go Go.Proofs
def kn_ (d : List Int) (p : Int) (e : Edge) : Bool := decide (0 < dA d p) && decide (dA d e.To = dA d p - 1)
section
variable {g : Graph} {d : List Int}
theorem GoodMap.to (hg : GoodMap g d) {p : Int} (hp : 0 ≤ p ∧ p < g.Edges.length) {e : Edge} (he : e ∈ ba_ g.Edges p) : 0 ≤ e.To ∧ e.To < d.length := by
  have := (hg.row _ (dn_ (g := g) hp.1 hp.2)).2 e he
  have := hg.dl; omega
theorem GoodMap.val (hg : GoodMap g d) {p : Int} (hp : 0 ≤ p ∧ p < d.length) : -1 ≤ dA d p ∧ dA d p < d.length ∧ dA d p < 300 := by
  have h : -1 ≤ dA d p ∧ dA d p < g.Positions.length := hg.bnd _ (eh_ 0 hp.1 hp.2)
  have := hg.dl; have := hg.n2; omega
theorem GoodMap.len (hg : GoodMap g d) {p : Int} (hp : 0 ≤ p ∧ p < g.Edges.length) : (ba_ g.Edges p).length ≤ 100 := (hg.row _ (dn_ (g := g) hp.1 hp.2)).1
theorem GoodMap.down (hg : GoodMap g d) {p : Int} (hp : 0 ≤ p ∧ p < g.Edges.length) (h : 0 < dA d p) : ∃ e ∈ ba_ g.Edges p, kn_ d p e = true := by
  have hel := hg.el
  have hw := hg.dist p.toNat (by omega)
  rw [show ((p.toNat : Nat) : Int) = p by omega] at hw
  rcases hw with hw | ⟨_, hw⟩ | ⟨e, he, _, hw, _⟩
  · omega
  · omega
  · refine ⟨e, he, ?_⟩
    unfold kn_
    simp only [Bool.and_eq_true, decide_eq_true_eq]; omega
def kz_ (E : List (List Edge)) (d : List Int) (p : Int) : Nat := (ba_ E p).countP (fun e => !kn_ d p e)
def WrongIs (g : Graph) (d : List Int) (l : List Int) : Prop := l.length = g.Edges.length ∧ ∀ p : Nat, p < g.Edges.length → ix 0 l p = kz_ g.Edges d p
theorem WrongIs.uniq {l l' : List Int} (h : WrongIs g d l) (h' : WrongIs g d l') : l = l' := by
  apply List.ext_getElem (by rw [h.1, h'.1])
  intro i a b
  have := h.2 i (by rw [← h.1]; exact a)
  have := h'.2 i (by rw [← h.1]; exact a)
  rw [eg_ 0 a] at *
  rw [eg_ 0 b] at *
  omega
def WSt (E : List (List Edge)) (d : List Int) (n : Nat) (j i : Nat) (l : List Int) : Prop :=
  l.length = n ∧ (∀ p : Nat, p < j → ix 0 l p = kz_ E d p) ∧ ix 0 l j = (((ba_ E (j : Int)).take i).countP (fun e => !kn_ d (j : Int) e) : Nat) ∧ ∀ p : Nat, j < p → p < n → ix 0 l p = 0
def WOut (E : List (List Edge)) (d : List Int) (n : Nat) (j : Nat) (l : List Int) : Prop :=
  l.length = n ∧ (∀ p : Nat, p < j → ix 0 l p = kz_ E d p) ∧ ∀ p : Nat, j ≤ p → p < n → ix 0 l p = 0
theorem WOut.start {E : List (List Edge)} {n j : Nat} {l : List Int} (h : WOut E d n j l) (hj : j < n) : WSt E d n j 0 l := by
  obtain ⟨a, b, c⟩ := h
  exact ⟨a, b, by rw [c j (Nat.le_refl _) hj]; simp, fun p hp hp' => c p (by omega) hp'⟩
theorem WSt.le {E : List (List Edge)} {n j i : Nat} {l : List Int} (h : WSt E d n j i l) (hl : (ba_ E (j : Int)).length ≤ 100) : 0 ≤ ix 0 l j ∧ ix 0 l j ≤ 100 := by
  have : ((ba_ E (j : Int)).take i).countP (fun e => !kn_ d (j : Int) e) ≤ ((ba_ E (j : Int)).take i).length := List.countP_le_length
  rw [List.length_take] at this
  have := h.2.2.1
  omega
def widthN (d : List Int) (v : Int) : Nat := d.countP (fun x => decide (x = v))
def WidthsIs (d : List Int) (l : List Int) : Prop := ∃ m : Int, m ∈ d ∧ (∀ x ∈ d, x ≤ m) ∧ (l.length : Int) = m + 1 ∧ ∀ v : Nat, v < l.length → ix 0 l v = widthN d v
theorem WidthsIs.uniq {d l l' : List Int} (h : WidthsIs d l) (h' : WidthsIs d l') : l = l' := by
  obtain ⟨m, a, b, c, e⟩ := h
  obtain ⟨m', a', b', c', e'⟩ := h'
  have := b _ a'
  have := b' _ a
  apply List.ext_getElem (by omega)
  intro i x y
  have h1 := e i x
  have h2 := e' i y
  rw [eg_ 0 x] at h1
  rw [eg_ 0 y] at h2
  omega
end
end Go.Proofs.Ytogfongmnkmegaa.Pad
