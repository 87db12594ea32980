/- The law of power over the pure functions. -/
import Derived.Test.YtfeomcdhhgeilaaLawTime
set_option linter.unusedVariables false
set_option linter.unusedSimpArgs false
namespace Go.Proofs.Ytfeomcdhhgeilaa.Pad
open Go

/-- The first element of a list that is so. -/
theorem index_any {α : Type} {l : List α} {b : α → Option Bool} {c : α → Bool} (h : ∀ x ∈ l, b x = some (c x)) :
    (((forN (σ := Unit) (ρ := Int) (fun i1 s1 => (at? l (i1 : Int)).bind fun x5 => (b x5).bind fun x6 => if x6 then (some (Sum.inr (i1 : Int))) else (some (Sum.inl ()))) l.length 0 ()).bind fun o2 => onL o2 fun out1 => some (-1)).bind
      fun x1 => some (decide (0 ≤ x1))) = some (l.any c) := by
  suffices hh : Tot (((forN (σ := Unit) (ρ := Int) (fun i1 s1 => (at? l (i1 : Int)).bind fun x5 => (b x5).bind fun x6 => if x6 then (some (Sum.inr (i1 : Int))) else (some (Sum.inl ()))) l.length 0 ()).bind fun o2 => onL o2 fun out1 => some (-1)).bind
      fun x1 => some (decide (0 ≤ x1))) (fun r => r = l.any c) by
    obtain ⟨r, h1, rfl⟩ := hh; exact h1
  refine Tot.bind (fun n => decide (0 ≤ n) = l.any c) ?_ (fun n hn => .pure hn)
  refine Tot.bind _ (Tot.forN (fun i _ => ∀ j, j < i → ∀ x, l[j]? = some x → c x = false) (fun r => 0 ≤ r ∧ l.any c = true) (fun j hj => by omega) ?_) ?_
  · intro j _ hj hI
    refine Tot.bind _ (Tot.atN hj) fun x hx => ?_
    have hm := List.mem_of_getElem? hx
    refine Tot.eq (h x hm) (Tot.ite (fun hc => .pure ⟨by omega, List.any_eq_true.2 ⟨x, hm, hc⟩⟩) fun hc => .pure ?_)
    intro q hq y hy
    rcases Nat.lt_succ_iff_lt_or_eq.1 hq with h | rfl
    · exact hI q h y hy
    · rw [hx] at hy; cases hy; simpa using hc
  · intro o ho
    refine Tot.onL ho (fun _ hI => .pure ?_) (fun r hr => by rw [hr.2]; exact decide_eq_true hr.1)
    show false = _
    symm
    rw [List.any_eq_false]
    intro x hx
    obtain ⟨q, hq, e⟩ := List.getElem_of_mem hx
    rw [hI q hq x (by rw [List.getElem?_eq_getElem hq, e])]; decide

theorem F33_eq (l : List Signal) (S : Nat) {i : Nat} (hi : i ≤ 1000) : F33 (i : Int) l = some (env l S (i + 1)).1 := by
  suffices hh : Tot (F33 (i : Int) l) (fun r => r = (env l S (i + 1)).1) by
    obtain ⟨r, h1, rfl⟩ := hh; exact h1
  unfold F33
  refine Tot.bind (fun (s : Bool × Int) => s.1 = (env l S (i + 1)).1) ?_ (fun s hs => .pure hs)
  refine whileO_inv (fun t (s : Bool × Int) => s.2 = (t : Int) ∧ s.1 = (env l S t).1) _ (i + 1) 0 _ ⟨rfl, rfl⟩ ?_ ?_
  · rintro t ⟨b, s2⟩ _ ht ⟨h1, h2⟩
    simp only at h1 h2 ⊢
    subst h1
    have inner : Tot (forS (σ := Bool) (fun i7 s8 =>
      (((at? l (i7 : Int)).bind fun x193 => if x193.At == (t : Int) then ((at? l (i7 : Int)).bind fun x194 => if x194.Kind == 4 then (some true) else ((at? l (i7 : Int)).bind fun x195 => some (x195.Kind == 5))) else (some false)) : Option Bool).bind fun v28 =>
      if v28 then ((at? l (i7 : Int)).bind fun x196 => some (x196.Kind == 5)) else (some s8)) l.length 0 b) (fun r => r = ((l.take l.length).foldl (stp t) (env l S t)).1) := by
      refine Tot.forS (fun j b => b = ((l.take j).foldl (stp t) (env l S t)).1) h2 ?_
      rintro j b hj rfl
      obtain ⟨y, hy⟩ : ∃ y, l[j]? = some y := ⟨_, List.getElem?_eq_getElem hj⟩
      rw [fold_next hy, at?_nat, hy]
      simp only [Option.bind_some]
      unfold stp
      by_cases hA : y.At = (t : Int)
      · by_cases k4 : y.Kind = 4
        · simp [hA, k4]; exact .pure rfl
        · by_cases k5 : y.Kind = 5
          · simp [hA, k4, k5]; exact .pure rfl
          · by_cases k1 : y.Kind = 1
            · simp [hA, k4, k5, k1]; exact .pure rfl
            · simp [hA, k4, k5, k1]; exact .pure rfl
      · simp [hA]; exact .pure rfl
    rw [List.take_length] at inner
    obtain ⟨r, e1, e2⟩ := inner
    refine .inl ⟨(r, w64 ((t : Int) + 1)), ?_, by show w64 ((t : Int) + 1) = _; rw [w64_eq (by omega) (by omega)]; omega, e2⟩
    rw [if_pos (by simp; omega)]
    rw [e1]; rfl
  · rintro ⟨b, s2⟩ ⟨h1, h2⟩
    simp only at h1 h2 ⊢
    rw [Nat.zero_add] at h1 h2
    exact ⟨(b, s2), by rw [if_neg (by simp; omega)], h2⟩

theorem lf_told {p : Panel} {l : List Signal} {d : Nat} {g : Gate} : ∀ t, 0 < lf p l d g (t + 1) → ∃ u : Nat, u ≤ t ∧ hears p l u d g = 1 ∧ lf p l d g (t + 1) = g.Wait - (t - u : Int) := by
  intro t
  induction t with
  | zero =>
    intro h
    unfold lf nextL at h ⊢
    split at h
    · omega
    · split at h
      · rename_i h1 h2
        exact ⟨0, Nat.le_refl _, h2, by rw [if_neg h1, if_pos h2]; simp⟩
      · simp [lf] at h; omega
  | succ t ih =>
    intro h
    have hh := h
    rw [lf] at h
    unfold nextL at h
    split at h
    · omega
    · split at h
      · rename_i h1 h2
        exact ⟨t + 1, Nat.le_refl _, h2, by rw [lf]; unfold nextL; rw [if_neg h1, if_pos h2]; simp⟩
      · rename_i h1 h2
        have hp : 0 < lf p l d g (t + 1) := by omega
        obtain ⟨u, u1, u2, u3⟩ := ih hp
        refine ⟨u, by omega, u2, ?_⟩
        rw [lf]; unfold nextL; rw [if_neg h1, if_neg h2]
        omega

theorem sh_pw {p : Panel} {l : List Signal} {d : Nat} {g : Gate} {t : Nat} (h : sh p l d g (t + 1) = true) : pw p l t = true ∧ 0 < lf p l d g (t + 1) := by
  unfold sh at h
  simp only [Bool.and_eq_true, decide_eq_true_eq] at h
  exact ⟨h.1, h.2.1⟩

theorem row_lt {row : Int} {p : Panel} {l : List Signal} {t : Nat} (h : RowIs row (shutAt p l t)) : ∃ n : Nat, row = (n : Int) ∧ n < 2 ^ p.Doors.length ∧ n < 256 ∧ ∀ d, n.testBit d = shutAt p l t d := by
  obtain ⟨n, e, n1, n2⟩ := h
  refine ⟨n, e, Nat.lt_pow_two_of_testBit n (fun i hi => ?_), n1, n2⟩
  rw [n2]; unfold shutAt
  rw [List.getElem?_eq_none hi]
theorem shut_pw {p : Panel} {l : List Signal} {t d : Nat} (h : shutAt p l t d = true) : pw p l t = true := by
  unfold shutAt at h
  cases hd : p.Doors[d]? with
  | none => rw [hd] at h; cases h
  | some g => rw [hd] at h; exact (sh_pw h).1

/-- Safe finds nothing in the rows of a play. -/
theorem F34_law {p : Panel} (hp : GoodPanel p) {ticks : Int} (h0 : 0 ≤ ticks) (h1 : ticks ≤ 1000) {l : List Signal} (hL : Legal p ticks l) {rows : List Int} (hR : RowsAre p l ticks.toNat rows) :
    F34 p ticks l rows = some (-1, -1, 0) := by
  suffices hh : Tot (F34 p ticks l rows) (fun r => r = (-1, -1, 0)) by
    obtain ⟨r, e, rfl⟩ := hh; exact e
  have c8 := hp.d
  have p8 : 2 ^ p.Doors.length ≤ 256 := by
    calc 2 ^ p.Doors.length ≤ 2 ^ 8 := Nat.pow_le_pow_right (by decide) c8
      _ = 256 := by decide
  unfold F34
  refine Tot.bind _ (F45_spec hp h0 h1 l) fun r hr => ?_
  obtain ⟨out, e⟩ := r
  simp only at hr ⊢
  rcases hr with ⟨_, rfl, hP⟩ | ⟨hn, _⟩
  case inr => exact absurd hL hn
  have hlen := hR.1
  have hol := hP.1
  rw [if_neg (by decide), if_neg (by simp; omega)]
  have e54 : F54 rows (fun x0_ => F55 x0_ p) = some (rows.any fun _ => false) := by
    unfold F54 F73
    refine index_any fun x hx => ?_
    obtain ⟨q, hq, eq⟩ := List.getElem_of_mem hx
    obtain ⟨n, en, n1, _⟩ := row_lt (hR.2 q x (by rw [List.getElem?_eq_getElem hq, eq]))
    unfold F55
    rw [nn?_le (by omega), shlI_one (by omega), F48_eq]
    have : w64 (((2 ^ p.Doors.length : Nat) : Int) - 1) = ((2 ^ p.Doors.length : Nat) : Int) - 1 := w64_eq (by omega) (by omega)
    simp only [Option.bind_some, this]
    rw [decide_eq_true (by omega)]; rfl
  rw [e54]
  have ef : (rows.any fun _ => false) = false := by simp
  rw [ef]
  simp only [Option.bind_some, Bool.false_eq_true, if_false, onL]
  refine Tot.bind _ (Tot.forN (fun _ _ => True) (fun _ => False) trivial ?_) ?_
  · intro t _ ht _
    have ht' : t < out.length := by omega
    refine Tot.bind _ (Tot.atN ht) fun row hrow => ?_
    obtain ⟨n, rfl, n1, n2, n3⟩ := row_lt (hR.2 t row hrow)
    refine Tot.bind _ (Tot.forN (fun _ _ => True) (fun _ => False) trivial ?_) ?_
    · intro d _ hd _
      refine Tot.bind _ (Tot.atN hd) fun g hg => ?_
      have G := hp.g g (List.mem_of_getElem? hg)
      have g0 := G.w0; have g1 := G.w1
      rw [w64_eq (n := (t : Int) - g.Wait) (by omega) (by omega), w64_eq (n := (t : Int) - g.Wait + 1) (by omega) (by omega), w64_eq (n := (t : Int) + 1) (by omega) (by omega), maxI_eq]
      have esub : sub? out (max 0 ((t : Int) - g.Wait + 1)) ((t : Int) + 1) = some ((out.take ((t : Int) + 1).toNat).drop (max 0 ((t : Int) - g.Wait + 1)).toNat) := by
        unfold sub?; rw [if_pos ⟨by omega, by omega, by omega⟩]
      rw [esub]
      simp only [Option.bind_some]
      have part : ∀ x, x ∈ (out.take ((t : Int) + 1).toNat).drop (max 0 ((t : Int) - g.Wait + 1)).toNat → ∃ u : Nat, u ≤ t ∧ out[u]? = some x := by
        intro x hx
        obtain ⟨q, hq, eq⟩ := List.getElem_of_mem (List.mem_of_mem_drop hx)
        have hq' : q < min ((t : Int) + 1).toNat out.length := by simpa using hq
        refine ⟨q, by omega, ?_⟩
        rw [List.getElem?_eq_getElem (by omega), ← eq, List.getElem_take]
      have e56 : F56 ((out.take ((t : Int) + 1).toNat).drop (max 0 ((t : Int) - g.Wait + 1)).toNat) (fun x0_ => F57 x0_ (d : Int)) =
          some (((out.take ((t : Int) + 1).toNat).drop (max 0 ((t : Int) - g.Wait + 1)).toNat).any fun x => x.said[d]? == some 1) := by
        unfold F56 F74
        refine index_any fun x hx => ?_
        obtain ⟨u, hu, eu⟩ := part x hx
        have T := (hP.2 u x eu).said d g hg
        unfold F57
        rw [at?_nat, T]
        simp only [Option.bind_some]
        by_cases h : says p l u g = 1 <;> simp [h]
      rw [e56]
      simp only [Option.bind_some]
      rw [nn?_le (by omega)]
      simp only [Option.bind_some]
      refine Tot.bind (fun v => v = false) ?_ ?_
      · have ebit : ((andI (shrI (n : Int) (d : Int)) 1) == 1) = n.testBit d := by
          have := F19_law (n := n) (i := d) (by omega) (by omega)
          unfold F19 at this
          rw [wu64_nat (by omega)] at this
          exact Option.some.inj this
        rw [ebit]
        refine Tot.ite (fun hb => ?_) fun _ => .pure rfl
        rw [n3] at hb
        have hs : sh p l d g (t + 1) = true := by
          unfold shutAt at hb; rw [hg] at hb; exact hb
        obtain ⟨hpw, hlf⟩ := sh_pw hs
        refine Tot.bind _ (Tot.atN ht') fun x hx => ?_
        have X := hP.2 t x hx
        rw [X.power, hpw]
        simp only [Bool.not_true, Bool.false_eq_true, if_false]
        refine Tot.bind _ (F47_law hp) fun f hf => ?_
        obtain ⟨m, hF⟩ := hf
        refine Tot.ite (fun h => ?_) fun _ => .pure ?_
        · have := sh_free (l := l) hp hF hg (t := t) (by simpa using h)
          rw [hs] at this; cases this
        · obtain ⟨u, u1, u2, u3⟩ := lf_told t hlf
          have hsay : says p l u g = 1 := by
            unfold hears at u2
            split at u2
            · cases u2
            · exact u2
          have hu : u < out.length := by omega
          have : ((out.take ((t : Int) + 1).toNat).drop (max 0 ((t : Int) - g.Wait + 1)).toNat).any (fun x => x.said[d]? == some 1) = true := by
            rw [List.any_eq_true]
            refine ⟨out[u], ?_, ?_⟩
            · refine List.mem_of_getElem? (i := u - (max 0 ((t : Int) - g.Wait + 1)).toNat) ?_
              rw [List.getElem?_drop, List.getElem?_take, if_pos (by omega), show (max 0 ((t : Int) - g.Wait + 1)).toNat + (u - (max 0 ((t : Int) - g.Wait + 1)).toNat) = u by omega, List.getElem?_eq_getElem hu]
            · rw [(hP.2 u out[u] (List.getElem?_eq_getElem hu)).said d g hg, hsay]; rfl
          rw [this]; rfl
      · rintro _ rfl
        exact .pure trivial
    · intro o ho
      cases o with
      | inl _ => exact .pure trivial
      | inr r => exact ho.elim
  · intro o ho
    cases o with
    | inl _ => exact .pure rfl
    | inr r => exact ho.elim

theorem F27_bad {p : Panel} {e : Int} (h : F27 p = some e) (he : e ≠ 0) (ticks : Int) (l : List Signal) : F17 p ticks l = some ([], e) := by
  unfold F17 F45
  rw [h]
  simp only [Option.bind_some]
  rw [if_pos (by simpa using he)]
  simp only [Option.bind_some]
  rw [if_pos (by simpa using he)]

theorem F11_law (p : Panel) (ticks : Int) (l : List Signal) : F11 p ticks l = some true := by
  suffices h : Tot (F11 p ticks l) (fun r => r = true) by
    obtain ⟨r, h, rfl⟩ := h; exact h
  unfold F11 F20
  simp only [F16_law, Option.bind_some]
  refine Tot.bind (fun _ => True) (Tot.ite (fun _ => .pure trivial) fun _ => .pure trivial) fun b _ => ?_
  refine Tot.ite (fun _ => .pure rfl) fun _ => ?_
  obtain ⟨e, he1, he2⟩ := F27_law p
  by_cases he : e = 0
  case neg =>
    rw [F27_bad he1 he]
    simp only [Option.bind_some]
    rw [if_pos (by simpa using he)]
    exact .pure rfl
  have hp := he2 he
  have c8 := hp.d
  have p8 : 2 ^ p.Doors.length ≤ 256 := by
    calc 2 ^ p.Doors.length ≤ 2 ^ 8 := Nat.pow_le_pow_right (by decide) c8
      _ = 256 := by decide
  refine Tot.bind _ (F17_spec hp l) fun r hr => ?_
  obtain ⟨rows, e⟩ := r
  simp only at hr ⊢
  rcases hr with ⟨t0, t1, hL, rfl, hR⟩ | ⟨_, hne⟩
  case inr => rw [if_pos (by simpa using hne)]; exact .pure rfl
  have hlen := hR.1
  rw [if_neg (by decide), if_neg (by simp; omega)]
  refine Tot.eq (cnt?_le (by omega)) ?_
  refine Tot.bind _ (Tot.forN (fun _ _ => True) (fun _ => False) trivial ?_) ?_
  · intro t _ ht _
    refine Tot.bind _ (Tot.atN (by omega)) fun row hrow => ?_
    have hRow := hR.2 t row hrow
    obtain ⟨n, rfl, n1, n2, n3⟩ := row_lt hRow
    have hn' : ¬ ((2 ^ p.Doors.length : Nat) : Int) ≤ (n : Int) := by rw [Int.ofNat_le]; omega
    rw [if_neg (by simp), wu64_nat (by omega), shlI_one (by omega), if_neg (by rw [decide_eq_true_eq]; exact hn')]
    refine Tot.ite (fun hpos => ?_) fun _ => .pure trivial
    rw [F33_eq l p.Sensors.toNat (by omega)]
    simp only [Option.bind_some]
    have : (env l p.Sensors.toNat (t + 1)).1 = true := by
      show pw p l t = true
      cases hpw : pw p l t with
      | true => rfl
      | false =>
        exfalso
        have := row_zero hRow fun d => by
          cases hb : shutAt p l t d with
          | false => rfl
          | true => rw [shut_pw hb] at hpw; cases hpw
        rw [this] at hpos; simp at hpos
    rw [this]
    exact .pure trivial
  · intro o ho
    refine Tot.onL ho ?_ (fun r hr => hr.elim)
    intro _ _
    rw [F34_law hp t0 t1 hL hR]
    exact .pure rfl
end Go.Proofs.Ytfeomcdhhgeilaa.Pad
