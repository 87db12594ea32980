/- The rows of a play, told by recursion on the tick. -/
import Derived.Test.YtfeomcdhhgeilaaLawSpec
import Derived.Test.YtfeomcdhhgeilaaLawRows
set_option linter.unusedVariables false
set_option linter.unusedSimpArgs false
namespace Go.Proofs.Ytfeomcdhhgeilaa.Pad
open Go

def nextL (wait : Int) (pw : Bool) (word left : Int) : Int := if pw = false ∨ word = 2 then 0 else if word = 1 then wait else max 0 (left - 1)
/-- How long a door still wants to hold, before a tick. -/
def lf (p : Panel) (l : List Signal) (d : Nat) (g : Gate) : Nat → Int
  | 0 => 0
  | t + 1 => nextL g.Wait (pw p l t) (hears p l t d g) (lf p l d g t)
/-- Whether it is shut, before a tick. -/
def sh (p : Panel) (l : List Signal) (d : Nat) (g : Gate) : Nat → Bool
  | 0 => false
  | t + 1 => pw p l t && (decide (0 < lf p l d g (t + 1)) && (!hasL l t 6 d || sh p l d g t))
theorem lf_le {p : Panel} {l : List Signal} {d : Nat} {g : Gate} (h : 0 ≤ g.Wait) : ∀ t, 0 ≤ lf p l d g t ∧ lf p l d g t ≤ g.Wait
  | 0 => ⟨Int.le_refl _, h⟩
  | t + 1 => by
    have := lf_le (p := p) (l := l) (d := d) h t
    unfold lf nextL
    split
    · omega
    · split <;> omega
theorem F67_eq {x : Control_door} {wait : Int} (a0 : 0 ≤ x.left) (a1 : x.left ≤ 100) (pw st : Bool) (word : Int) :
    F67 x wait pw st word = some ⟨nextL wait pw word x.left, pw && (decide (0 < nextL wait pw word x.left) && (!st || x.shut))⟩ := by
  unfold F67 nextL
  have hw : w64 (x.left - 1) = x.left - 1 := w64_eq (by omega) (by omega)
  rw [hw, maxI_eq]
  cases pw with
  | false => simp
  | true =>
    by_cases h2 : word = 2
    · subst h2; simp
    · by_cases h1 : word = 1
      · subst h1
        simp
        by_cases hw : 0 < wait <;> cases st <;> simp [hw]
      · have e2 : (word == 2) = false := by simpa using h2
        have e1 : (word == 1) = false := by simpa using h1
        simp only [e1, e2, h1, h2, Bool.not_true, Bool.false_eq_true, if_false, if_true, Option.bind_some, or_self, Bool.true_and]
        by_cases hw : 0 < max 0 (x.left - 1)
        · rw [if_pos (by simpa using hw)]; cases st <;> simp [hw]
        · rw [if_neg (by simpa using hw)]; simp [hw]

def shutAt (p : Panel) (l : List Signal) (t : Nat) (d : Nat) : Bool := match p.Doors[d]? with | some g => sh p l d g (t + 1) | none => false
def RowsAre (p : Panel) (l : List Signal) (n : Nat) (r : List Int) : Prop := r.length = n ∧ ∀ (t : Nat) row, r[t]? = some row → RowIs row (shutAt p l t)

theorem F46_spec {p : Panel} (hp : GoodPanel p) {l : List Signal} {n : Nat} (hn : n ≤ 1000) {out : List Control_tick} (hB : Played p l n out) : Tot (F46 p out) (RowsAre p l n) := by
  have c := hp.d
  obtain ⟨hl, hG⟩ := hB
  unfold F46
  refine Tot.eq (mk?_le (by omega) (by omega)) ?_
  rw [hl]
  refine Tot.bind _ (Tot.forS (fun t s => s.2.length = p.Doors.length ∧ (∀ (d : Nat) g, p.Doors[d]? = some g → s.2[d]? = some ⟨lf p l d g t, sh p l d g t⟩) ∧ RowsAre p l t s.1) ?_ ?_) ?_
  · refine ⟨by simp, fun d g hd => ?_, rfl, fun t row h => by simp at h⟩
    have := (List.getElem?_eq_some_iff.1 hd).1
    simp [List.getElem?_replicate, this, lf, sh]
  · rintro t ⟨rs, ds⟩ ht ⟨h1, h2, h3, h4⟩
    simp only at h1 h2 h3 h4 ⊢
    refine Tot.bind _ (Tot.atN (by omega)) fun x hx => ?_
    have G := hG t x hx
    refine Tot.bind _ (Tot.forS (fun i s => s.1.length = p.Doors.length ∧ (∀ (d : Nat) g, p.Doors[d]? = some g → s.1[d]? = some (if d < i then ⟨lf p l d g (t + 1), sh p l d g (t + 1)⟩ else ⟨lf p l d g t, sh p l d g t⟩)) ∧
      RowIs s.2 (fun d => decide (d < i) && shutAt p l t d)) ?_ ?_) ?_
    · exact ⟨h1, fun d g hd => by simpa using h2 d g hd, 0, rfl, by decide, fun d => by simp⟩
    · rintro i ⟨es, row⟩ hi ⟨e1, e2, nn, e3, e4, e5⟩
      simp only at e1 e2 e3 e4 e5 ⊢
      have hi' : i < p.Doors.length := by omega
      obtain ⟨g, hg⟩ : ∃ g, p.Doors[i]? = some g := ⟨_, List.getElem?_eq_getElem hi'⟩
      have W := hp.g g (List.mem_of_getElem? hg)
      have w0 := W.w0; have w1 := W.w1
      have hy := e2 i g hg
      rw [if_neg (Nat.lt_irrefl i)] at hy
      have B := lf_le (p := p) (l := l) (d := i) (g := g) (by omega) t
      have ei : ((i : Int)).toNat = i := by omega
      rw [at?_nat, hy]
      simp only [Option.bind_some]
      rw [at?_nat, hg]
      simp only [Option.bind_some]
      rw [at?_nat, G.stood i hi']
      simp only [Option.bind_some]
      rw [at?_nat, G.heard i g hg]
      simp only [Option.bind_some]
      rw [F67_eq B.1 (by show lf p l i g t ≤ 100; omega), G.power, ei]
      simp only [Option.bind_some]
      have ez : (⟨nextL g.Wait (pw p l t) (hears p l t i g) (lf p l i g t), pw p l t && (decide (0 < nextL g.Wait (pw p l t) (hears p l t i g) (lf p l i g t)) && (!hasL l t 6 i || sh p l i g t))⟩ : Control_door) =
        ⟨lf p l i g (t + 1), sh p l i g (t + 1)⟩ := rfl
      rw [ez]
      have key : ∀ (d : Nat) g', p.Doors[d]? = some g' → (es.set i ⟨lf p l i g (t + 1), sh p l i g (t + 1)⟩)[d]? = some (if d < i + 1 then ⟨lf p l d g' (t + 1), sh p l d g' (t + 1)⟩ else ⟨lf p l d g' t, sh p l d g' t⟩) := by
        intro d g' hd
        rw [List.getElem?_set]
        by_cases h : i = d
        · subst h
          rw [hg] at hd; cases hd
          rw [if_pos rfl, if_pos (by omega), if_pos (by omega)]
        · rw [if_neg h, e2 d g' hd]
          congr 1
          by_cases hlt : d < i
          · rw [if_pos hlt, if_pos (by omega)]
          · rw [if_neg hlt, if_neg (by omega)]
      have hz := key i g hg
      rw [if_pos (by omega)] at hz
      rw [at?_nat, hz]
      simp only [Option.bind_some]
      have sa : shutAt p l t i = sh p l i g (t + 1) := by unfold shutAt; rw [hg]
      refine Tot.ite (fun hs => ?_) fun hs => ?_
      · refine Tot.eq (nn?_le (by omega)) ?_
        refine .pure ⟨by simpa using e1, key, nn ||| 2 ^ i, ?_, ?_, fun d => ?_⟩
        · rw [e3, shlI_one (by omega), orI_nat (by omega)]
          calc 2 ^ i ≤ 2 ^ 8 := Nat.pow_le_pow_right (by decide) (by omega)
            _ < 2 ^ 62 := by decide
        · refine Nat.or_lt_two_pow (n := 8) e4 ?_
          exact Nat.pow_lt_pow_right (by decide) (by omega)
        · show _ = (decide (d < i + 1) && shutAt p l t d)
          rw [Nat.testBit_or, e5, Nat.testBit_two_pow]
          by_cases h : d = i
          · subst h; rw [sa, hs]; simp
          · have h1 : decide (i = d) = false := decide_eq_false (Ne.symm h)
            have h2 : decide (d < i + 1) = decide (d < i) := by
              apply decide_eq_decide.2; omega
            rw [h1, h2, Bool.or_false]
      · refine .pure ⟨by simpa using e1, key, nn, e3, e4, fun d => ?_⟩
        show _ = (decide (d < i + 1) && shutAt p l t d)
        rw [e5]
        by_cases h : d = i
        · subst h
          have : sh p l d g (t + 1) = false := by simpa using hs
          rw [sa, this]; simp
        · have h2 : decide (d < i + 1) = decide (d < i) := by
            apply decide_eq_decide.2; omega
          rw [h2]
    rintro ⟨es, row⟩ ⟨e1, e2, e3⟩
    simp only at e1 e2 e3 ⊢
    refine Tot.eq (push?_le (by simp; omega)) ?_
    rw [h1] at e2 e3
    refine .pure ⟨e1, fun d g hd => by have := e2 d g hd; rwa [if_pos (List.getElem?_eq_some_iff.1 hd).1] at this, by simp [h3], fun t' row' hr => ?_⟩
    rcases Nat.lt_or_ge t' t with h | h
    · rw [List.getElem?_append_left (by omega)] at hr
      exact h4 t' row' hr
    · rw [List.getElem?_append_right (by omega)] at hr
      have : t' = t := by
        rcases Nat.lt_or_ge (t' - rs.length) 1 with h' | h'
        · omega
        · rw [List.getElem?_eq_none (by simpa using h')] at hr; cases hr
      subst this
      rw [h3, Nat.sub_self] at hr
      simp only [List.getElem?_cons_zero, Option.some.injEq] at hr
      subst hr
      obtain ⟨nn, a1, a2, a3⟩ := e3
      refine ⟨nn, a1, a2, fun d => ?_⟩
      rw [a3]
      by_cases hd : d < p.Doors.length
      · simp [hd]
      · simp [hd, shutAt, List.getElem?_eq_none (Nat.le_of_not_lt hd)]
  · rintro ⟨rs, ds⟩ ⟨_, _, h3⟩
    exact .pure h3

/-- What Play answers for a good panel. -/
theorem F17_spec {p : Panel} (hp : GoodPanel p) {ticks : Int} (l : List Signal) :
    Tot (F17 p ticks l) (fun r => (0 ≤ ticks ∧ ticks ≤ 1000 ∧ Legal p ticks l ∧ r.2 = 0 ∧ RowsAre p l ticks.toNat r.1) ∨ (¬(0 ≤ ticks ∧ ticks ≤ 1000 ∧ Legal p ticks l) ∧ r.2 ≠ 0)) := by
  unfold F17
  by_cases h : 0 ≤ ticks ∧ ticks ≤ 1000
  · refine Tot.bind _ (F45_spec hp h.1 h.2 l) fun r hr => ?_
    rcases hr with ⟨hL, h0, hP⟩ | ⟨hL, h0⟩
    · rw [if_neg (by simp [h0])]
      exact Tot.bind _ (F46_spec hp (by omega) hP) fun rows hrows => .pure (.inl ⟨h.1, h.2, hL, rfl, hrows⟩)
    · rw [if_pos (by simp [h0])]
      exact .pure (.inr ⟨fun hh => hL hh.2.2, by show r.2 ≠ 0; omega⟩)
  · have : F45 p ticks l = some ([], 1) := by
      unfold F45
      rw [F27_good hp]
      simp only [Option.bind_some]
      rw [if_neg (by simp)]
      simp only [F48_eq, Option.bind_some]
      rw [if_pos (by rw [decide_eq_false h]; rfl)]
    rw [this]
    exact .pure (.inr ⟨fun hh => h ⟨hh.1, hh.2.1⟩, by decide⟩)
end Go.Proofs.Ytfeomcdhhgeilaa.Pad
