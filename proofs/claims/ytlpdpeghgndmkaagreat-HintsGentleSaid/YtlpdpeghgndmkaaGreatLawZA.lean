/- Code locks and clues: what the program and the reference say of them. -/
import Derived.Test.YtlpdpeghgndmkaaGreatPadL
import Derived.Test.YtlpdpeghgndmkaaGreatHizP
set_option linter.unusedVariables false
set_option linter.unusedSimpArgs false
namespace Go.Proofs.YtlpdpeghgndmkaaGreat.Pad
open Go
def wi (n lo hi : Int) : Bool := decide (lo ≤ n) && decide (n ≤ hi)
theorem ey_ {n lo hi : Int} : wi n lo hi = true ↔ lo ≤ n ∧ n ≤ hi := by simp [wi]
theorem wi_eq (a b c : Int) : (if decide (b ≤ a) = true then some (decide (a ≤ c)) else some false) = some (wi a b c) := by
  unfold wi
  by_cases h : b ≤ a <;> simp [h]
theorem hk_ (a b c : Int) : bx_ a b c = some (wi a b c) := wi_eq a b c
theorem mr_ (a b c : Int) : cx_ a b c = some (wi a b c) := wi_eq a b c
theorem fx_ (a b c : Int) : cr_ a b c = some (wi a b c) := wi_eq a b c
theorem di_ (a b c : Int) : dj_ a b c = some (wi a b c) := wi_eq a b c
def okL (l : CodeLock) : Bool := wi l.Wheels 1 4 && wi l.Symbols 2 10
structure Lk (l : CodeLock) : Prop where
  w1 : 1 ≤ l.Wheels
  w2 : l.Wheels ≤ 4
  s1 : 2 ≤ l.Symbols
  s2 : l.Symbols ≤ 10
theorem hn_ {l : CodeLock} : okL l = true ↔ Lk l := by
  unfold okL
  rw [Bool.and_eq_true, ey_, ey_]
  exact ⟨fun h => ⟨h.1.1, h.1.2, h.2.1, h.2.2⟩, fun h => ⟨⟨h.w1, h.w2⟩, h.s1, h.s2⟩⟩
theorem oa_ (l : CodeLock) : ii_ l = some (if okL l then 0 else 10) := by
  unfold ii_ okL
  rw [hk_, Option.bind_some, hk_]
  cases wi l.Wheels 1 4 <;> cases wi l.Symbols 2 10 <;> rfl
theorem le_ (l : CodeLock) : gy_ l = some (if okL l then 0 else 10) := by
  unfold gy_ okL
  rw [fx_, Option.bind_some, fx_]
  cases wi l.Wheels 1 4 <;> cases wi l.Symbols 2 10 <;> rfl
noncomputable def idxF {α : Type} (l : List α) (f : α → Option Bool) : Option Int :=
  (forN (σ := Unit) (fun i1 _ => (at? l (i1 : Int)).bind fun x5 => (f x5).bind fun x6 => if x6 then some (Sum.inr (i1 : Int)) else some (Sum.inl ())) l.length 0 ()).bind fun o2 => onL o2 fun _ => some (-1)
theorem idxF_spec {α : Type} {l : List α} {f : α → Option Bool} {p : α → Bool} (hf : ∀ x ∈ l, f x = some (p x)) : Tot (idxF l f) (fun r => (r = -1 ∧ l.any p = false) ∨ (0 ≤ r ∧ l.any p = true)) := by
  unfold idxF
  refine Tot.bind _ (Tot.forN (fun j _ => ∀ k x, k < j → l[k]? = some x → p x = false) (fun (r : Int) => 0 ≤ r ∧ l.any p = true) (fun k x hk _ => by omega) ?_) ?_
  · intro j s hj hI
    refine Tot.bind _ (Tot.atN hj) fun x hx => ?_
    rw [hf x (List.mem_of_getElem? hx), Option.bind_some]
    refine Tot.ite (fun h => Tot.pure ⟨by omega, List.any_eq_true.2 ⟨x, List.mem_of_getElem? hx, h⟩⟩) (fun h => Tot.pure ?_)
    intro k y hk hy
    by_cases e : k = j
    · subst e; rw [hx] at hy; obtain rfl := Option.some.inj hy; simpa using h
    · exact hI k y (by omega) hy
  · intro o ho
    refine Tot.onL (E := fun r => 0 ≤ r ∧ l.any p = true) ho (fun _ h => Tot.pure (.inl ⟨rfl, ?_⟩)) (fun r h => .inr h)
    rw [List.any_eq_false]
    intro x hx
    obtain ⟨k, hk⟩ := List.getElem?_of_mem hx
    rw [h k x (List.getElem?_eq_some_iff.1 hk).1 hk]; simp
theorem idxF_any {α : Type} {l : List α} {f : α → Option Bool} {p : α → Bool} (hf : ∀ x ∈ l, f x = some (p x)) : ((idxF l f).bind fun x1 => some (decide (0 ≤ x1))) = some (l.any p) := by
  obtain ⟨r, h1, h2⟩ := idxF_spec hf
  rw [h1, Option.bind_some]
  rcases h2 with ⟨rfl, h⟩ | ⟨h0, h⟩
  · rw [h]; rfl
  · rw [h, decide_eq_true h0]
theorem any_int {l : List Int} {f : Int → Option Bool} {p : Int → Bool} (hf : ∀ x ∈ l, f x = some (p x)) : dt_ l f = some (l.any p) := idxF_any hf
theorem any_ints {l : List (List Int)} {f : List Int → Option Bool} {p : List Int → Bool} (hf : ∀ x ∈ l, f x = some (p x)) : dn_ l f = some (l.any p) := idxF_any hf
theorem any_clue {l : List Clue} {f : Clue → Option Bool} {p : Clue → Bool} (hf : ∀ x ∈ l, f x = some (p x)) : cg_ l f = some (l.any p) := idxF_any hf
theorem any_tie {l : List Tie} {f : Tie → Option Bool} {p : Tie → Bool} (hf : ∀ x ∈ l, f x = some (p x)) : du_ l f = some (l.any p) := idxF_any hf
theorem any_aid {l : List Aid} {f : Aid → Option Bool} {p : Aid → Bool} (hf : ∀ x ∈ l, f x = some (p x)) : dv_ l f = some (l.any p) := idxF_any hf
def co_ (l : CodeLock) (c : List Int) : Bool := decide ((c.length : Int) = l.Wheels) && c.all fun n => wi n 0 (l.Symbols - 1)
theorem Lk.ws {l : CodeLock} (h : Lk l) : w64 (l.Symbols - 1) = l.Symbols - 1 := by have := h.s1; have := h.s2; exact dz_ (by omega) (by omega)
theorem Lk.ww {l : CodeLock} (h : Lk l) : w64 (l.Wheels - 1) = l.Wheels - 1 := by have := h.w1; have := h.w2; exact dz_ (by omega) (by omega)
theorem mt_ {l : CodeLock} (h : Lk l) (c : List Int) : hc_ l c = some (co_ l c) := by
  unfold hc_ co_
  by_cases hc : (c.length : Int) = l.Wheels
  · rw [if_neg (by simp [hc]), decide_eq_true hc, Bool.true_and]
    have := Tot.bind (Q := fun r => r = c.all fun n => wi n 0 (l.Symbols - 1)) _ (Tot.forN (σ := Unit) (ρ := Bool) (k := c.length) (s := ()) (body := fun i1 s1 => (at? c (i1 : Int)).bind fun x7 => (bx_ x7 0 (w64 (l.Symbols - 1))).bind fun x8 => if !x8 then some (Sum.inr false) else some (Sum.inl ()))
      (fun j _ => ∀ k x, k < j → c[k]? = some x → wi x 0 (l.Symbols - 1) = true) (fun (r : Bool) => r = false ∧ (c.all fun n => wi n 0 (l.Symbols - 1)) = false) (fun k x hk _ => by omega) (by
        intro j s hj hI
        refine Tot.bind _ (Tot.atN hj) fun x hx => ?_
        rw [hk_, Option.bind_some, h.ws]
        refine Tot.ite (fun hh => Tot.pure ⟨rfl, ?_⟩) (fun hh => Tot.pure ?_)
        · rw [List.all_eq_false]; exact ⟨x, List.mem_of_getElem? hx, by simpa using hh⟩
        · intro k y hk hy
          by_cases e : k = j
          · subst e; rw [hx] at hy; obtain rfl := Option.some.inj hy; simpa using hh
          · exact hI k y (by omega) hy)) (f := fun o2 => onL o2 fun _ => some true) (fun o ho => Tot.onL (E := fun r => r = false ∧ (c.all fun n => wi n 0 (l.Symbols - 1)) = false) ho (fun _ hh => Tot.pure (by
          symm; rw [List.all_eq_true]
          intro x hx
          obtain ⟨k, hk⟩ := List.getElem?_of_mem hx
          exact hh k x (List.getElem?_eq_some_iff.1 hk).1 hk)) (fun r hh => hh.1.trans hh.2.symm))
    obtain ⟨r, h1, rfl⟩ := this
    exact h1
  · rw [if_pos (by simp [hc]), decide_eq_false hc]; rfl
theorem jf_ {l : CodeLock} (h : Lk l) (n : Int) : de_ l n = some (wi n 0 (l.Symbols - 1)) := by
  unfold de_; rw [fx_, h.ws]; rfl
theorem ow_ {l : CodeLock} (h : Lk l) (n : Int) : ci_ l n = some (wi n 0 (l.Wheels - 1)) := by
  unfold ci_; rw [fx_, h.ww]; rfl
theorem kv_ {l : CodeLock} (h : Lk l) (c : List Int) : eo_ l c = some (co_ l c) := by
  unfold eo_ co_
  by_cases hc : (c.length : Int) = l.Wheels
  · rw [if_pos (by simp [hc]), any_int (p := fun n => !wi n 0 (l.Symbols - 1)) (fun x _ => by unfold ge_; rw [jf_ h]; rfl), decide_eq_true hc, Bool.true_and, Option.bind_some]
    congr 1
    simp [List.all_eq_not_any_not]
  · rw [if_neg (by simp [hc]), decide_eq_false hc]; rfl
theorem hz_ (l : CodeLock) (c : List Int) : dm_ l c = some (if okL l then (if co_ l c then 0 else 12) else 10) := by
  unfold dm_ gu_
  rw [le_, Option.bind_some]
  by_cases h : okL l = true
  · rw [h]
    have hl := hn_.1 h
    rw [any_ints (p := fun c => !co_ l c) (fun x _ => by unfold fm_; rw [kv_ hl]; rfl)]
    cases hc : co_ l c <;> simp [hc]
  · have h' : okL l = false := by simpa using h
    rw [h']; rfl
theorem ref01_CheckCode_eq (l : CodeLock) (c : List Int) : em_ l c = some (if okL l then (if co_ l c then 0 else 12) else 10) := by
  unfold em_
  rw [oa_, Option.bind_some]
  by_cases h : okL l = true
  · rw [h, mt_ (hn_.1 h)]
    cases co_ l c <;> simp
  · have h' : okL l = false := by simpa using h
    rw [h']; rfl
theorem ih_ (a b : List Int) : ff_ a b = some (decide (a = b)) := by
  unfold ff_
  by_cases hc : a.length = b.length
  · rw [if_neg (by simp [hc])]
    have := Tot.bind (Q := fun r => r = decide (a = b)) _ (Tot.forN (σ := Unit) (ρ := Bool) (k := a.length) (s := ()) (body := fun i1 s1 => (at? a (i1 : Int)).bind fun x7 => (at? b (i1 : Int)).bind fun x8 => if x7 != x8 then some (Sum.inr false) else some (Sum.inl ()))
      (fun j _ => ∀ k, k < j → a[k]? = b[k]?) (fun (r : Bool) => r = false ∧ a ≠ b) (fun k hk => by omega) (by
        intro j s hj hI
        refine Tot.bind _ (Tot.atN hj) fun x hx => ?_
        refine Tot.bind _ (Tot.atN (l := b) (by omega)) fun y hy => ?_
        refine Tot.ite (fun hh => Tot.pure ⟨rfl, ?_⟩) (fun hh => Tot.pure ?_)
        · rintro rfl; rw [hx] at hy; obtain rfl := Option.some.inj hy; simp at hh
        · intro k hk
          by_cases e : k = j
          · subst e; rw [hx, hy]; simp at hh; rw [hh]
          · exact hI k (by omega))) (f := fun o2 => onL o2 fun _ => some true) (fun o ho => Tot.onL (E := fun r => r = false ∧ a ≠ b) ho (fun _ hh => Tot.pure (by
          symm; rw [decide_eq_true_iff]
          apply List.ext_getElem?
          intro k
          by_cases hk : k < a.length
          · exact hh k hk
          · rw [List.getElem?_eq_none (by omega), List.getElem?_eq_none (by omega)])) (fun r hh => by rw [hh.1, decide_eq_false hh.2]))
    obtain ⟨r, h1, rfl⟩ := this
    exact h1
  · rw [if_pos (by simp; omega), decide_eq_false (fun e => hc (by rw [e]))]
def sameClue (a b : Clue) : Bool := a.Kind == b.Kind && (a.A == b.A && (a.B == b.B && (a.N == b.N && (a.M == b.M && (a.Not == b.Not && decide (a.Guess = b.Guess))))))
theorem ref01_SameClue_eq (a b : Clue) : ct_ a b = some (sameClue a b) := by
  unfold ct_ sameClue
  rw [ih_]
  cases a.Kind == b.Kind <;> cases a.A == b.A <;> cases a.B == b.B <;> cases a.N == b.N <;> cases a.M == b.M <;> cases a.Not == b.Not <;> rfl
def db_ (l : CodeLock) (c : Clue) : Bool :=
  if c.Kind = 1 then wi c.A 0 (l.Wheels - 1) && (wi c.N 0 (l.Symbols - 1) && (c.B == 0 && (c.M == 0 && decide (c.Guess = []))))
  else if c.Kind = 2 then wi c.A 0 (l.Wheels - 1) && (wi c.B 0 (l.Wheels - 1) && (decide (c.A ≤ c.B) && (wi c.N 0 100 && (c.M == 0 && decide (c.Guess = [])))))
  else if c.Kind = 3 ∨ c.Kind = 4 then wi c.A 0 (l.Wheels - 1) && (wi c.B 0 (l.Wheels - 1) && (c.A != c.B && (c.N == 0 && (c.M == 0 && decide (c.Guess = [])))))
  else if c.Kind = 5 then wi c.N 0 (l.Symbols - 1) && (wi c.M 0 l.Wheels && (c.A == 0 && (c.B == 0 && decide (c.Guess = []))))
  else if c.Kind = 6 then co_ l c.Guess && (wi c.N 0 l.Wheels && (wi c.M 0 l.Wheels && (c.A == 0 && c.B == 0)))
  else if c.Kind = 7 then wi c.A 0 (l.Wheels - 1) && (wi c.N 2 10 && (wi c.M 0 (c.N - 1) && (c.B == 0 && decide (c.Guess = []))))
  else false
theorem len1 (l : List Int) : ((l.length : Int) == 0) = decide (l = []) := by cases l <;> simp <;> omega
theorem len0 (l : List Int) : ((l.length : Int) == ((([] : List Int)).length : Int)) = decide (l = []) := by cases l <;> simp <;> omega
theorem ref01_isClue_eq {l : CodeLock} (h : Lk l) (c : Clue) : ir_ l c = some (db_ l c) := by
  unfold ir_ db_
  simp only [hk_, ref01_SameClue_eq, mt_ h, Option.bind_some, h.ww, h.ws, sameClue, beq_self_eq_true, Bool.true_and, Bool.and_true, decide_true]
  by_cases h1 : c.Kind = 1
  · simp only [h1]
    cases wi c.A 0 (l.Wheels - 1) <;> cases wi c.N 0 (l.Symbols - 1) <;> rfl
  by_cases h2 : c.Kind = 2
  · simp only [h2]
    cases wi c.A 0 (l.Wheels - 1) <;> cases wi c.B 0 (l.Wheels - 1) <;> cases decide (c.A ≤ c.B) <;> cases wi c.N 0 100 <;> rfl
  by_cases h3 : c.Kind = 3
  · simp only [h3]
    cases wi c.A 0 (l.Wheels - 1) <;> cases wi c.B 0 (l.Wheels - 1) <;> cases c.A != c.B <;> rfl
  by_cases h4 : c.Kind = 4
  · simp only [h4]
    cases wi c.A 0 (l.Wheels - 1) <;> cases wi c.B 0 (l.Wheels - 1) <;> cases c.A != c.B <;> rfl
  by_cases h5 : c.Kind = 5
  · simp only [h5]
    cases wi c.N 0 (l.Symbols - 1) <;> cases wi c.M 0 l.Wheels <;> rfl
  by_cases h6 : c.Kind = 6
  · simp only [h6]
    cases co_ l c.Guess <;> cases wi c.N 0 l.Wheels <;> cases wi c.M 0 l.Wheels <;> simp
  by_cases h7 : c.Kind = 7
  · simp only [h7]
    cases wi c.A 0 (l.Wheels - 1)
    · rfl
    cases hn : wi c.N 2 10
    · rfl
    have := ey_.1 hn
    rw [dz_ (n := c.N - 1) (by omega) (by omega)]
    cases wi c.M 0 (c.N - 1) <;> rfl
  simp [h1, h2, h3, h4, h5, h6, h7]
theorem kx_ {l : CodeLock} (h : Lk l) (c : Clue) : ep_ l c = some (db_ l c) := by
  unfold ep_ db_
  simp only [fx_, ow_ h, jf_ h, kv_ h, Option.bind_some, len0]
  by_cases h1 : c.Kind = 1
  · simp only [h1]
    cases wi c.A 0 (l.Wheels - 1) <;> cases wi c.N 0 (l.Symbols - 1) <;> simp [len0]
    all_goals (by_cases hA : c.A = 0 <;> by_cases hB : c.B = 0 <;> by_cases hN : c.N = 0 <;> by_cases hM : c.M = 0 <;> simp_all [len1])
  by_cases h2 : c.Kind = 2
  · simp only [h2]
    cases wi c.A 0 (l.Wheels - 1) <;> cases wi c.B 0 (l.Wheels - 1) <;> cases hd : decide (c.A ≤ c.B) <;> cases wi c.N 0 100 <;> simp_all [len0]
    all_goals (by_cases hA : c.A = 0 <;> by_cases hB : c.B = 0 <;> by_cases hN : c.N = 0 <;> by_cases hM : c.M = 0 <;> simp_all [len1])
  by_cases h3 : c.Kind = 3
  · simp only [h3]
    cases wi c.A 0 (l.Wheels - 1) <;> cases wi c.B 0 (l.Wheels - 1) <;> cases c.A != c.B <;> simp [len0]
    all_goals (by_cases hA : c.A = 0 <;> by_cases hB : c.B = 0 <;> by_cases hN : c.N = 0 <;> by_cases hM : c.M = 0 <;> simp_all [len1])
  by_cases h4 : c.Kind = 4
  · simp only [h4]
    cases wi c.A 0 (l.Wheels - 1) <;> cases wi c.B 0 (l.Wheels - 1) <;> cases c.A != c.B <;> simp [len0]
    all_goals (by_cases hA : c.A = 0 <;> by_cases hB : c.B = 0 <;> by_cases hN : c.N = 0 <;> by_cases hM : c.M = 0 <;> simp_all [len1])
  by_cases h5 : c.Kind = 5
  · simp only [h5]
    cases wi c.N 0 (l.Symbols - 1) <;> cases wi c.M 0 l.Wheels <;> simp [len0]
    all_goals (by_cases hA : c.A = 0 <;> by_cases hB : c.B = 0 <;> by_cases hN : c.N = 0 <;> by_cases hM : c.M = 0 <;> simp_all [len1])
  by_cases h6 : c.Kind = 6
  · simp only [h6]
    cases co_ l c.Guess <;> cases wi c.N 0 l.Wheels <;> cases wi c.M 0 l.Wheels <;> simp
    all_goals (by_cases hA : c.A = 0 <;> by_cases hB : c.B = 0 <;> by_cases hN : c.N = 0 <;> by_cases hM : c.M = 0 <;> simp_all [len1])
  by_cases h7 : c.Kind = 7
  · simp only [h7]
    cases wi c.A 0 (l.Wheels - 1)
    · rfl
    cases hn : wi c.N 2 10
    · rfl
    have := ey_.1 hn
    rw [dz_ (n := c.N - 1) (by omega) (by omega)]
    cases wi c.M 0 (c.N - 1) <;> simp [len0]
    all_goals (by_cases hA : c.A = 0 <;> by_cases hB : c.B = 0 <;> by_cases hN : c.N = 0 <;> by_cases hM : c.M = 0 <;> simp_all [len1])
  simp [h1, h2, h3, h4, h5, h6, h7]
end Go.Proofs.YtlpdpeghgndmkaaGreat.Pad
