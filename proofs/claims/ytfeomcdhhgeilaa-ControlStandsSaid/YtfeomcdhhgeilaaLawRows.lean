/- What the rows of a play are. -/
import Derived.Test.YtfeomcdhhgeilaaLawBegin
set_option linter.unusedVariables false
set_option linter.unusedSimpArgs false
namespace Go.Proofs.Ytfeomcdhhgeilaa.Pad
open Go

theorem ofInt_nat (n : Nat) : BitVec.ofInt 64 (n : Int) = BitVec.ofNat 64 n := by
  apply BitVec.eq_of_toNat_eq
  simp [BitVec.toNat_ofInt]
  try omega
theorem orI_nat {n m : Nat} (h : n < 2 ^ 62) (h' : m < 2 ^ 62) : orI (n : Int) (m : Int) = ((n ||| m : Nat) : Int) := by
  have hl : n ||| m < 2 ^ 62 := Nat.or_lt_two_pow h h'
  unfold orI
  rw [ofInt_nat, ofInt_nat, BitVec.toNat_or, BitVec.toNat_ofNat, BitVec.toNat_ofNat, Nat.mod_eq_of_lt (by omega), Nat.mod_eq_of_lt (by omega)]
  exact w64_eq (by omega) (by omega)
theorem andI_nat {n m : Nat} (h : n < 2 ^ 62) (h' : m < 2 ^ 62) : andI (n : Int) (m : Int) = ((n &&& m : Nat) : Int) := by
  have hl : n &&& m < 2 ^ 62 := Nat.and_lt_two_pow n h'
  unfold andI
  rw [ofInt_nat, ofInt_nat, BitVec.toNat_and, BitVec.toNat_ofNat, BitVec.toNat_ofNat, Nat.mod_eq_of_lt (by omega), Nat.mod_eq_of_lt (by omega)]
  exact w64_eq (by omega) (by omega)
theorem shlI_one {i : Nat} (h : i ≤ 60) : shlI 1 (i : Int) = ((2 ^ i : Nat) : Int) := by
  unfold shlI
  have : min ((i : Int)).toNat 64 = i := by omega
  rw [this, Int.one_mul]
  have hb : 2 ^ i ≤ 2 ^ 60 := Nat.pow_le_pow_right (by decide) h
  have e : ((2 : Int) ^ i) = ((2 ^ i : Nat) : Int) := by simp
  rw [e]
  generalize 2 ^ i = m at hb
  exact w64_eq (by omega) (by omega)
theorem wu64_nat {i : Nat} (h : i ≤ 60) : wu64 (i : Int) = (i : Int) := by
  unfold wu64
  simp [IntKind.wrap, IntKind.bits, IntKind.signed]
  try omega
theorem shrI_nat {n i : Nat} (h : i ≤ 60) : shrI (n : Int) (i : Int) = ((n >>> i : Nat) : Int) := by
  unfold shrI
  have : min ((i : Int)).toNat 64 = i := by omega
  rw [this, show ((2 : Int) ^ i) = ((2 ^ i : Nat) : Int) by simp, Nat.shiftRight_eq_div_pow, Int.fdiv_eq_ediv_of_nonneg _ (Int.natCast_nonneg _)]
  rfl
theorem F19_law {n i : Nat} (hn : n < 2 ^ 62) (h : i ≤ 60) : F19 (n : Int) (i : Int) = some (n.testBit i) := by
  unfold F19
  have h2 : n >>> i < 2 ^ 62 := Nat.lt_of_le_of_lt (by rw [Nat.shiftRight_eq_div_pow]; exact Nat.div_le_self _ _) hn
  rw [wu64_nat h, shrI_nat h, show (1 : Int) = ((1 : Nat) : Int) by rfl, andI_nat h2 (by decide)]
  have e : n.testBit i = (n >>> i &&& 1 != 0) := by simp [Nat.testBit, Nat.and_comm]
  rw [e]
  congr 1
  have : n >>> i &&& 1 = 0 ∨ n >>> i &&& 1 = 1 := by
    rw [Nat.and_one_is_mod]; omega
  rcases this with h | h <;> rw [h] <;> rfl

theorem maxI_eq (a b : Int) : maxI a b = max a b := by
  unfold maxI; split <;> omega

theorem F67_law {d : Control_door} {wait : Int} (h0 : 1 ≤ wait) (h1 : wait ≤ 50) (a0 : 0 ≤ d.left) (a1 : d.left ≤ wait) (pw st : Bool) (word : Int) :
    Tot (F67 d wait pw st word) (fun r => 0 ≤ r.left ∧ r.left ≤ wait ∧ (word = 0 → r.left ≤ max 0 (d.left - 1)) ∧ (r.shut = true → 0 < r.left)) := by
  unfold F67
  have hw : w64 (d.left - 1) = d.left - 1 := w64_eq (by omega) (by omega)
  rw [hw, maxI_eq]
  refine Tot.bind (fun v => 0 ≤ v ∧ v ≤ wait ∧ (word = 0 → v ≤ max 0 (d.left - 1))) ?_ ?_
  · refine Tot.bind (fun _ => True) (Tot.ite (fun _ => .pure trivial) fun _ => .pure trivial) fun v _ => ?_
    refine Tot.ite (fun _ => .pure ⟨by omega, by omega, fun _ => by omega⟩) fun _ => Tot.ite (fun h => .pure ⟨by omega, by omega, fun h' => ?_⟩) fun _ => .pure ⟨by omega, by omega, fun _ => by omega⟩
    have : word = 1 := by simpa using h
    omega
  rintro v ⟨v0, v1, v2⟩
  refine Tot.ite (fun _ => Tot.ite (fun h => ?_) fun _ => .pure ⟨v0, v1, v2, fun h => by cases h⟩) fun _ => .pure ⟨v0, v1, v2, fun h => by cases h⟩
  have : 0 < v := by simpa using h
  exact Tot.ite (fun _ => .pure ⟨v0, v1, v2, fun _ => this⟩) fun _ => .pure ⟨v0, v1, v2, fun _ => this⟩

/-- The bits of a row are the doors that are shut. -/
def RowIs (row : Int) (f : Nat → Bool) : Prop := ∃ n : Nat, row = (n : Int) ∧ n < 256 ∧ ∀ d, n.testBit d = f d
/-- The silence of a door from a tick up to another. -/
def Quiet (out : List Control_tick) (d : Nat) (a b : Nat) : Prop := ∀ (t : Nat) x, a ≤ t → t < b → out[t]? = some x → x.heard[d]? = some 0

theorem F46_law {p : Panel} (hp : GoodPanel p) {l : List Signal} {n : Nat} (hn : n ≤ 1000) {out : List Control_tick} (hB : Begun p l n out) :
    Tot (F46 p out) (fun r => r.length = n ∧ ∀ (t : Nat) row, r[t]? = some row → ∃ f, RowIs row f ∧
      ∀ d g, p.Doors[d]? = some g → ∀ a, a ≤ t → Quiet out d a (t + 1) → g.Wait ≤ (t : Int) + 1 - a → f d = false) := by
  have c := hp.d
  obtain ⟨hl, hG⟩ := hB
  unfold F46
  refine Tot.eq (mk?_le (by omega) (by omega)) ?_
  rw [hl]
  refine Tot.bind _ (Tot.forS (fun t s => s.2.length = p.Doors.length ∧
      (∀ (d : Nat) g x, p.Doors[d]? = some g → s.2[d]? = some x → 0 ≤ x.left ∧ x.left ≤ g.Wait ∧ ∀ a, a ≤ t → Quiet out d a t → x.left ≤ max 0 (g.Wait - (t - a))) ∧
      s.1.length = t ∧ ∀ (t : Nat) row, s.1[t]? = some row → ∃ f, RowIs row f ∧ ∀ d g, p.Doors[d]? = some g → ∀ a, a ≤ t → Quiet out d a (t + 1) → g.Wait ≤ (t : Int) + 1 - a → f d = false) ?_ ?_) ?_
  · refine ⟨by simp, fun d g x hd hx => ?_, rfl, fun t row h => by simp at h⟩
    have := hp.g g (List.mem_of_getElem? hd)
    have w0 := this.w0
    rw [List.getElem?_replicate] at hx
    split at hx
    · cases hx; exact ⟨by decide, by show (0 : Int) ≤ _; omega, fun a _ _ => by show (0 : Int) ≤ _; omega⟩
    · cases hx
  · rintro t ⟨rs, ds⟩ ht ⟨h1, h2, h3, h4⟩
    simp only at h1 h2 h3 h4 ⊢
    refine Tot.bind _ (Tot.atN (by omega)) fun x hx => ?_
    have G := (hG t x hx).1
    refine Tot.bind _ (Tot.forS (fun i s => s.1.length = p.Doors.length ∧
      (∀ (d : Nat) g x, p.Doors[d]? = some g → s.1[d]? = some x → 0 ≤ x.left ∧ x.left ≤ g.Wait ∧ (∀ a, a ≤ t → Quiet out d a t → i ≤ d → x.left ≤ max 0 (g.Wait - (t - a))) ∧
        (d < i → (∀ a, a ≤ t + 1 → Quiet out d a (t + 1) → x.left ≤ max 0 (g.Wait - (t + 1 - a))) ∧ (x.shut = true → 0 < x.left))) ∧
      RowIs s.2 (fun d => decide (d < i) && (match s.1[d]? with | some x => x.shut | none => false))) ?_ ?_) ?_
    · refine ⟨h1, fun d g y hd hy => ?_, 0, rfl, by decide, fun d => by simp⟩
      obtain ⟨a1, a2, a3⟩ := h2 d g y hd hy
      exact ⟨a1, a2, fun a b c _ => a3 a b c, fun h => by omega⟩
    · rintro i ⟨es, row⟩ hi ⟨e1, e2, nn, e3, e4, e5⟩
      simp only at e1 e2 e3 e4 e5 ⊢
      have hi' : i < p.Doors.length := by omega
      refine Tot.bind _ (Tot.atN (by omega)) fun y hy => ?_
      refine Tot.bind _ (Tot.atN hi') fun g hg => ?_
      refine Tot.bind _ (Tot.atN (by rw [G.st]; exact hi')) fun sb hsb => ?_
      refine Tot.bind _ (Tot.atN (by rw [G.h]; exact hi')) fun hb hhb => ?_
      have W := hp.g g (List.mem_of_getElem? hg)
      obtain ⟨y0, y1, y2, _⟩ := e2 i g y hg hy
      refine Tot.bind _ (F67_law W.w0 W.w1 y0 y1 _ _ _) fun z hz => ?_
      obtain ⟨z0, z1, z2, z3⟩ := hz
      have ei : ((i : Int)).toNat = i := by omega
      rw [ei]
      have hset : ∀ d, (es.set i z)[d]? = if d = i then some z else es[d]? := by
        intro d
        rw [List.getElem?_set]
        by_cases h : i = d
        · subst h; rw [if_pos rfl, if_pos (by omega), if_pos rfl]
        · rw [if_neg h, if_neg (Ne.symm h)]
      have key : ∀ (d : Nat) g x, p.Doors[d]? = some g → (es.set i z)[d]? = some x → 0 ≤ x.left ∧ x.left ≤ g.Wait ∧ (∀ a, a ≤ t → Quiet out d a t → i + 1 ≤ d → x.left ≤ max 0 (g.Wait - (t - a))) ∧
          (d < i + 1 → (∀ a, a ≤ t + 1 → Quiet out d a (t + 1) → x.left ≤ max 0 (g.Wait - (t + 1 - a))) ∧ (x.shut = true → 0 < x.left)) := by
        intro d g' x' hd hx'
        rw [hset] at hx'
        split at hx'
        · rename_i h; subst h
          cases hx'
          rw [hg] at hd; cases hd
          refine ⟨z0, z1, fun a _ _ h => by omega, fun _ => ⟨fun a ha hq => ?_, z3⟩⟩
          by_cases hat : a = t + 1
          · subst hat; omega
          · have hle : a ≤ t := by omega
            have hw : hb = 0 := by
              have := hq t x hle (by omega) hx
              rw [hhb] at this; exact Option.some.inj this
            have := z2 hw
            have := y2 a hle (fun u v h h' => hq u v h (by omega)) (Nat.le_refl _)
            omega
        · rename_i h
          obtain ⟨b0, b1, b2, b3⟩ := e2 d g' x' hd hx'
          exact ⟨b0, b1, fun a ha hq hh => b2 a ha hq (by omega), fun hh => b3 (by omega)⟩
      refine Tot.bind _ (Tot.atN (by simp; omega)) fun z' hz' => ?_
      rw [hset, if_pos rfl] at hz'
      cases hz'
      refine Tot.ite (fun hs => ?_) fun hs => ?_
      · refine Tot.eq (nn?_le (by omega)) ?_
        refine .pure ⟨by simpa using e1, key, nn ||| 2 ^ i, ?_, ?_, fun d => ?_⟩
        · rw [e3, shlI_one (by omega), orI_nat (by omega)]
          calc 2 ^ i ≤ 2 ^ 8 := Nat.pow_le_pow_right (by decide) (by omega)
            _ < 2 ^ 62 := by decide
        · refine Nat.or_lt_two_pow (n := 8) e4 ?_
          exact Nat.pow_lt_pow_right (by decide) (by omega)
        · show _ = (decide (d < i + 1) && match (es.set i z)[d]? with | some x => x.shut | none => false)
          rw [Nat.testBit_or, e5, Nat.testBit_two_pow, hset]
          by_cases h : d = i
          · subst h; simp [hs]
          · rw [if_neg h]
            have h1 : decide (i = d) = false := decide_eq_false (Ne.symm h)
            have h2 : decide (d < i + 1) = decide (d < i) := by
              apply decide_eq_decide.2; omega
            rw [h1, h2, Bool.or_false]
      · refine .pure ⟨by simpa using e1, key, nn, e3, e4, fun d => ?_⟩
        show _ = (decide (d < i + 1) && match (es.set i z)[d]? with | some x => x.shut | none => false)
        rw [e5, hset]
        by_cases h : d = i
        · subst h
          have : z.shut = false := by simpa using hs
          simp [this]
        · rw [if_neg h]
          have h2 : decide (d < i + 1) = decide (d < i) := by
            apply decide_eq_decide.2; omega
          rw [h2]
    rintro ⟨es, row⟩ ⟨e1, e2, e3⟩
    simp only at e1 e2 e3 ⊢
    refine Tot.eq (push?_le (by simp; omega)) ?_
    rw [h1] at e2 e3
    refine .pure ⟨e1, fun d g y hd hy => ?_, by simp [h3], fun t' row' hr => ?_⟩
    · obtain ⟨b0, b1, b2, b3⟩ := e2 d g y hd hy
      have hd' : d < p.Doors.length := (List.getElem?_eq_some_iff.1 hd).1
      refine ⟨b0, b1, fun a ha hq => ?_⟩
      have := (b3 hd').1 a ha hq
      omega
    · rcases Nat.lt_or_ge t' t with h | h
      · rw [List.getElem?_append_left (by omega)] at hr
        exact h4 t' row' hr
      · rw [List.getElem?_append_right (by omega)] at hr
        have : t' = t := by
          rcases Nat.lt_or_ge (t' - rs.length) 1 with h' | h'
          · omega
          · rw [List.getElem?_eq_none (by simpa using h')] at hr; cases hr
        subst this
        rw [h3, Nat.sub_self] at hr
        simp only [List.getElem?_cons_zero, Option.some.injEq] at hr
        subst hr
        refine ⟨_, e3, fun d g hd a ha hq hw => ?_⟩
        have hd' : d < p.Doors.length := (List.getElem?_eq_some_iff.1 hd).1
        have hd'' : d < es.length := by omega
        obtain ⟨b0, b1, b2, b3⟩ := e2 d g es[d] hd (List.getElem?_eq_getElem hd'')
        have q1 := (b3 hd').1 a (by omega) hq
        have q2 := (b3 hd').2
        have : es[d].shut = false := by
          cases h : es[d].shut with
          | false => rfl
          | true => have := q2 h; omega
        simp [List.getElem?_eq_getElem hd'', this]
  · rintro ⟨rs, ds⟩ ⟨_, _, h3, h4⟩
    exact .pure ⟨h3, h4⟩
end Go.Proofs.Ytfeomcdhhgeilaa.Pad
