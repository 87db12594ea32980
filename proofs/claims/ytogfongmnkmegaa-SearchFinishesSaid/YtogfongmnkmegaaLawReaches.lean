/- SearchReaches, and what a run is. -/
import Derived.Test.YtogfongmnkmegaaLawSteps
set_option linter.unusedVariables false
namespace Go.Proofs.Ytogfongmnkmegaa.Pad
open Go Go.Proofs
def dz_ (E : List (List Edge)) (tr : List Int) : Int := tr.foldl (nx E) 0
theorem Run.dist {g : Graph} {d : List Int} {m : Mind} (hg : GoodMap g d) (hm : 0 ≤ m.Memory) {tr : List Int} {p : Int} {M : List Search_gone} (h : Run g.Edges d m tr p M) :
    0 ≤ dA d p → 0 ≤ dA d 0 ∧ dA d 0 ≤ dA d p + tr.length := by
  induction h with
  | start => intro h; simp; exact h
  | step h1 h2 h3 h4 h5 h6 ih =>
    rename_i tr p M e
    intro hd
    have ⟨_, hp, _⟩ := h1.ok hg hm
    have hel := hg.el
    have hw := hg.dist p.toNat (by omega)
    rw [show ((p.toNat : Nat) : Int) = p by omega] at hw
    have hmem : ix z0 (ba_ g.Edges p) e ∈ ba_ g.Edges p := eh_ z0 h4 h5
    have key : 0 ≤ dA d p ∧ dA d p ≤ dA d (nx g.Edges p e) + 1 := by
      rcases hw with hw | ⟨hw, _⟩ | ⟨e', _, a, b, c⟩
      · omega
      · have := hw _ hmem; unfold nx at hd; omega
      · have := c _ hmem (by unfold nx at hd; exact hd)
        unfold nx; omega
    obtain ⟨a, b⟩ := ih key.1
    simp only [List.length_append, List.length_singleton]
    omega
theorem F18_run {g : Graph} {d : List Int} {m : Mind} {most : Int} (h : ErrIs g d m most 0) :
    ∃ tr p M, Run g.Edges d m tr p M ∧ F46 ⟨g.Edges, d⟩ m most = some (tr, dA d p == 0) ∧ F18 g d m most = some (tr, dA d p == 0, 0) ∧ (tr.length : Int) ≤ most ∧
      (dA d p = 0 ∨ (ba_ g.Edges p).length = 0 ∨ (tr.length : Int) = most) := by
  obtain ⟨a, b, c, c'⟩ := h.ok
  obtain ⟨tr, p, M, h1, h2, _, h3, h4⟩ := jf_ a b c c'
  refine ⟨tr, p, M, h1, h2, ?_, h3, h4⟩
  unfold F18
  obtain ⟨⟨v, e⟩, e1, e2, e3⟩ := nd_ g d m most
  simp only at e2 e3
  have := e3.uniq h
  subst this; subst e2
  rw [e1, Option.bind_some, if_neg (by simp), h2]; rfl
theorem Tot.some_true {x : Option Bool} (h : Tot x (fun b => b = true)) : x = some true := by
  obtain ⟨b, h1, h2⟩ := h
  rw [h1, h2]
end Go.Proofs.Ytogfongmnkmegaa.Pad
