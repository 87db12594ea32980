/- A part of a slice of data. -/
import Derived.Test.YtlpdpeghgndmkaaPadH
import Derived.Laws.Slices
set_option linter.unusedVariables false
namespace Go.Proofs.Ytlpdpeghgndmkaa.Pad
open Go
variable {ro : Option Nat}
def sub? {α : Type} (l : List α) (lo hi : Int) : Option (List α) := if 0 ≤ lo ∧ lo ≤ hi ∧ hi ≤ l.length then some ((l.take hi.toNat).drop lo.toNat) else none
theorem na_ {α : Type} {l l' : List α} {lo hi : Int} (h : sub? l lo hi = some l') : 0 ≤ lo ∧ lo ≤ hi ∧ hi ≤ l.length ∧ l' = (l.take hi.toNat).drop lo.toNat := by
  unfold sub? at h
  split at h
  · rename_i hc
    exact ⟨hc.1, hc.2.1, hc.2.2, (Option.some.inj h).symm⟩
  · cases h
theorem op_sliceLH {α : Type} [Enc α] {P : Program} {n d : Nat} {f : Fr} {w : World} {K : Fr → World → Prop} {ty : TypeId} {pos : String} {af : Array Edge} {gd : Option (Nat × Bool)} {x y z : Operand} {S : PH} {T E : TypeId} {v : Value} {l l' : List α} {lo hi : Int}
    (hd : Nat.blt d n = true) (hT : P.underlying T = some (.slice E)) (hE : Shape P E (Enc.agg α) (Enc.sz α)) (hx : ev f x = v) (hr : RV S v l) (hy : ev f y = .int .i64 lo) (hz : ev f z = .int .i64 hi)
    (he : sub? l lo hi = some l') (k : ∀ u, RV S u l' → K (upd f d u) w) : OP P n ro ⟨some d, .slice T x (some y) (some z) none, ty, pos, af, gd⟩ f w K := by
  obtain ⟨a, cap, rfl, hl, hm, hn, hrow⟩ := ji_ hr
  obtain ⟨h0, h1, h2, rfl⟩ := na_ he
  have hel : P.elem T = E := by simp [Program.elem, hT]
  have hT' : P.underlying T = some (.slice (P.elem T)) := by rw [hel]; exact hT
  have hlen : ((l.take hi.toNat).drop lo.toNat).length = hi.toNat - lo.toNat := by
    rw [List.length_drop, List.length_take]; omega
  refine cx_ (v := sliced a lo.toNat hi.toNat cap (Enc.sz α)) (w' := w) hd ?_ (k _ ?_)
  · simp only [execOp, hx, hy, hz, Option.map_some, Option.map_none]
    have := run_slice_lh (P := P) w T a l.length cap hT' .i64 .i64 lo hi h0 h1 (by omega)
    rw [hel] at this
    simp [run_sliceAt_slice w T _ _ _ _ hT', this, hE.size w, Result.andThen]
  · unfold sliced
    rw [← hlen]
    refine rv_list' ⟨by omega, by omega, fun hnone => ?_, fun ad had i y hy => ?_⟩
    · cases a with
      | none =>
        obtain ⟨e1, e2⟩ := hn rfl
        subst e1
        exact ⟨by simp, by omega⟩
      | some ad => split at hnone <;> cases hnone
    · have hi' : i < ((l.take hi.toNat).drop lo.toNat).length := (List.getElem?_eq_some_iff.1 hy).1
      cases a with
      | none =>
        obtain ⟨e1, e2⟩ := hn rfl
        subst e1
        simp at hi'
      | some ad0 =>
        rw [if_neg (by omega)] at had
        cases had
        rw [List.getElem?_drop, List.getElem?_take] at hy
        rw [if_pos (by omega)] at hy
        obtain ⟨es, q1, q2⟩ := hrow ad0 rfl _ y hy
        refine ⟨es, q1, fun j u hu => ?_⟩
        have := q2 j u hu
        rw [hm_]
        rw [show lo.toNat * Enc.sz α + (i * Enc.sz α + j) = (lo.toNat + i) * Enc.sz α + j by rw [Nat.add_mul]; omega]
        exact this
end Go.Proofs.Ytlpdpeghgndmkaa.Pad
