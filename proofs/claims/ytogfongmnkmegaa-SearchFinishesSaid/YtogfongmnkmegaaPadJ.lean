/- A row read at another type of data: raw values in the place of what they stand for. -/
import Derived.Test.YtogfongmnkmegaaPadI
set_option linter.unusedVariables false
namespace Go.Proofs.Ytogfongmnkmegaa.Pad
open Go
structure Raw where
  v : Value
instance : Enc Raw where
  agg := false
  sz := 1
  rep _ cs x := cs = [x.v] ∧ x.v.oneCell' = true
  len h := by rw [h.1]; rfl
  one _ := rfl
  cell1 h := by intro v hv; rw [h.1] at hv; simp at hv; subst hv; exact h.2
  mono _ h := h
def Rel {α β : Type} (R : β → α → Prop) : List β → List α → Prop
  | [], [] => True
  | y :: m, x :: l => R y x ∧ Rel R m l
  | _, _ => False
theorem Rel.length {α β : Type} {R : β → α → Prop} : ∀ {m : List β} {l : List α}, Rel R m l → m.length = l.length
  | [], [], _ => rfl
  | _ :: _, _ :: _, h => by simp [Rel.length h.2]
theorem Rel.append {α β : Type} {R : β → α → Prop} : ∀ {m : List β} {l : List α} {m' : List β} {l' : List α}, Rel R m l → Rel R m' l' → Rel R (m ++ m') (l ++ l')
  | [], [], _, _, _, h => h
  | _ :: _, _ :: _, _, _, h, k => ⟨h.1, Rel.append h.2 k⟩
theorem Rel.mono {α β : Type} {R R' : β → α → Prop} (hh : ∀ y x, R y x → R' y x) : ∀ {m : List β} {l : List α}, Rel R m l → Rel R' m l
  | [], [], _ => trivial
  | _ :: _, _ :: _, h => ⟨hh _ _ h.1, Rel.mono hh h.2⟩
theorem Rel.get {α β : Type} {R : β → α → Prop} : ∀ {m : List β} {l : List α}, Rel R m l → ∀ {i : Nat} {x : α}, l[i]? = some x → ∃ y, m[i]? = some y ∧ R y x
  | [], [], _, i, x, h => by simp at h
  | y :: m, x :: l, hr, 0, z, h => by simp at h; subst h; exact ⟨y, rfl, hr.1⟩
  | y :: m, x :: l, hr, i + 1, z, h => by
    obtain ⟨u, h1, h2⟩ := Rel.get hr.2 (i := i) (x := z) (by simpa using h)
    exact ⟨u, by simpa using h1, h2⟩
section
variable {α β : Type} [Enc α] [Enc β] {S : PH} {R : β → α → Prop}
theorem RepL.to (h : ∀ cs y x, Enc.rep S cs y → R y x → Enc.rep S cs x) : ∀ {m : List β} {l : List α} {cs : List Value}, RepL S cs m → Rel R m l → RepL S cs l
  | [], [], _, a, _ => a
  | y :: m, x :: l, cs, ⟨es, rest, e, h1, h2⟩, ⟨r, k⟩ => ⟨es, rest, e, h _ _ _ h1 r, RepL.to h h2 k⟩
theorem RepL.back (h : ∀ cs x, Enc.rep S cs x → ∃ y, Enc.rep S cs y ∧ R y x) : ∀ {l : List α} {cs : List Value}, RepL S cs l → ∃ m : List β, RepL S cs m ∧ Rel R m l
  | [], cs, a => ⟨[], a, trivial⟩
  | x :: l, cs, ⟨es, rest, e, h1, h2⟩ => by
    obtain ⟨y, r1, r2⟩ := h _ _ h1
    obtain ⟨m, m1, m2⟩ := RepL.back h h2
    exact ⟨y :: m, ⟨es, rest, e, r1, m1⟩, r2, m2⟩
theorem RowP.to {T : TypeId} {v : Value} {m : List β} {l : List α} {k : Hp} (hs : Enc.sz β = Enc.sz α) (h : ∀ cs y x, Enc.rep S cs y → R y x → Enc.rep S cs x) (hR : Rel R m l) (hr : RowP T v m S k) : RowP T v l S k := by
  have hl := hR.length
  rcases hr with ⟨h1, h2, h3⟩ | ⟨g, cap, pre, ls, post, h1, h2, h3, h4, h5, h6⟩
  · refine .inl ⟨h1, ?_, h3⟩
    subst h2
    exact List.eq_nil_of_length_eq_zero (by simpa using hl.symm)
  · exact .inr ⟨g, cap, pre, ls, post, by rw [h1, hl], h2, RepL.to h h3 hR, by omega, h5, by rw [← hs, ← hl]; exact h6⟩
theorem RowP.back {T : TypeId} {v : Value} {l : List α} {k : Hp} (hs : Enc.sz β = Enc.sz α) (h : ∀ cs x, Enc.rep S cs x → ∃ y, Enc.rep S cs y ∧ R y x) (hr : RowP T v l S k) : ∃ m : List β, RowP T v m S k ∧ Rel R m l := by
  rcases hr with ⟨h1, h2, h3⟩ | ⟨g, cap, pre, ls, post, h1, h2, h3, h4, h5, h6⟩
  · subst h2
    exact ⟨[], .inl ⟨h1, rfl, h3⟩, trivial⟩
  · obtain ⟨m, m1, m2⟩ := RepL.back h h3
    have hl := m2.length
    exact ⟨m, .inr ⟨g, cap, pre, ls, post, by rw [h1, hl], h2, m1, by omega, h5, by rw [hs, hl]; exact h6⟩, m2⟩
theorem RV.to {v : Value} {m : List β} {l : List α} (hs : Enc.sz β = Enc.sz α) (h : ∀ cs y x, Enc.rep S cs y → R y x → Enc.rep S cs x) (hR : Rel R m l) (hv : RV S v m) : RV S v l := by
  have hl := hR.length
  obtain ⟨a, cap, rfl, c1, c2, c3, c4⟩ := ep_ hv
  rw [hl]
  refine gn_ ⟨by omega, c2, fun e => ?_, fun ad e i x hx => ?_⟩
  · obtain ⟨e1, e2⟩ := c3 e
    subst e1
    exact ⟨List.eq_nil_of_length_eq_zero (by simpa using hl.symm), e2⟩
  · obtain ⟨y, hy, r⟩ := hR.get hx
    obtain ⟨es, q1, q2⟩ := c4 ad e i y hy
    exact ⟨es, h _ _ _ q1 r, fun j u hu => by rw [← hs]; exact q2 j u hu⟩
end
theorem cy_ {σ ρ : Type} {s : σ} {k : σ → Option ρ} {r : ρ} (h : onL (Sum.inl s) k = some r) : k s = some r := h
theorem AllP.at_ : ∀ {l : List Nat} {p : Nat → Prop} (h : AllP l p) (i : Nat) {a : Nat} (e : l[i]? = some a), p a
  | [], _, _, _, _, e => by simp at e
  | b :: l, p, h, 0, a, e => by simp at e; subst e; exact h.1
  | b :: l, p, h, i + 1, a, e => AllP.at_ (l := l) h.2 i (by simpa using e)
theorem vt {f : Fr} {d : Nat} {v x : Value} {o : Option Nat} (h : (∀ e, o = some e → f e = v) ∧ v = x) (ho : o = some d) : f d = x := (h.1 d ho).trans h.2
end Go.Proofs.Ytogfongmnkmegaa.Pad
