/- The law of Safe, over the pure functions. -/
import Derived.Test.YtfeomcdhhgeilaaLawShuts
set_option linter.unusedVariables false
set_option linter.unusedSimpArgs false
namespace Go.Proofs.Ytfeomcdhhgeilaa.Pad
open Go

def bitI (row : Int) (d : Nat) : Bool := (andI (shrI row (d : Int)) 1) == 1
/-- The first tick that counts for a door. -/
def lo (g : Gate) (t : Nat) : Nat := ((t : Int) - g.Wait + 1).toNat
def toldN (p : Panel) (l : List Signal) (g : Gate) (b n : Nat) : Bool := (List.range n).any fun i => says p l (b + i) g == 1
def toldAt (p : Panel) (l : List Signal) (g : Gate) (t : Nat) : Bool := toldN p l g (lo g t) (t + 1 - lo g t)
theorem toldN_succ (p : Panel) (l : List Signal) (g : Gate) (b n : Nat) : toldN p l g b (n + 1) = (toldN p l g b n || says p l (b + n) g == 1) := by
  unfold toldN
  rw [List.range_succ, List.any_append, List.any_cons, List.any_nil, Bool.or_false]
/-- A door is shut there though it must not be. -/
def badAt (p : Panel) (l : List Signal) (rows : List Int) (f : Int) (t d : Nat) : Bool := match p.Doors[d]?, rows[t]? with
  | some g, some row => bitI row d && (!pw p l t || (decide (f ≤ (t : Int)) || !toldAt p l g t))
  | _, _ => false
def First (c : Nat → Nat → Bool) (n m : Nat) (r : Int × Int × Int) : Prop :=
  (r = (-1, -1, 0) ∧ ∀ t d, t < n → d < m → c t d = false) ∨ ∃ t d : Nat, t < n ∧ d < m ∧ c t d = true ∧ r = ((t : Int), (d : Int), 0) ∧ ∀ t' d', d' < m → (t' < t ∨ (t' = t ∧ d' < d)) → c t' d' = false
theorem First.uniq {c : Nat → Nat → Bool} {n m : Nat} {r q : Int × Int × Int} (h : First c n m r) (k : First c n m q) : r = q := by
  rcases h with ⟨rfl, a⟩ | ⟨t, d, a1, a2, a3, rfl, a4⟩ <;> rcases k with ⟨rfl, b⟩ | ⟨t', d', b1, b2, b3, rfl, b4⟩
  · rfl
  · rw [a t' d' b1 b2] at b3; cases b3
  · rw [b t d a1 a2] at a3; cases a3
  · have h1 : ¬(t' < t ∨ (t' = t ∧ d' < d)) := fun h => by rw [a4 t' d' b2 h] at b3; cases b3
    have h2 : ¬(t < t' ∨ (t = t' ∧ d < d')) := fun h => by rw [b4 t d a2 h] at a3; cases a3
    have e1 : t = t' := by omega
    have e2 : d = d' := by omega
    rw [e1, e2]

def RowsOk (p : Panel) (ticks : Int) (rows : List Int) : Prop := (rows.length : Int) = ticks ∧ ∀ x ∈ rows, 0 ≤ x ∧ x ≤ ((2 ^ p.Doors.length : Nat) : Int) - 1
def SafesIs (p : Panel) (ticks : Int) (l : List Signal) (rows : List Int) (r : Int × Int × Int) : Prop :=
  (err p ticks l ≠ 0 ∧ r = (0, 0, err p ticks l)) ∨ (err p ticks l = 0 ∧ ¬RowsOk p ticks rows ∧ r = (0, 0, 1)) ∨
    (err p ticks l = 0 ∧ RowsOk p ticks rows ∧ ∃ m f, FreesIs p m f ∧ First (badAt p l rows f) ticks.toNat p.Doors.length r)
theorem SafesIs.uniq {p : Panel} {ticks : Int} {l : List Signal} {rows : List Int} {r q : Int × Int × Int} (h : SafesIs p ticks l rows r) (k : SafesIs p ticks l rows q) : r = q := by
  rcases h with ⟨a, rfl⟩ | ⟨a, b, rfl⟩ | ⟨a, b, m, f, hf, hr⟩ <;> rcases k with ⟨a', rfl⟩ | ⟨a', b', rfl⟩ | ⟨a', b', m', f', hf', hr'⟩ <;> first | rfl | exact absurd a' a | exact absurd a a' | exact absurd b' b | exact absurd b b' | skip
  obtain ⟨hp, _⟩ := err_zero a
  have := FreesIs.uniq hp hf hf'
  subst this
  exact First.uniq hr hr'

theorem two_doors {p : Panel} (hp : GoodPanel p) : w64 (shlI 1 (p.Doors.length : Int) - 1) = ((2 ^ p.Doors.length : Nat) : Int) - 1 ∧ 2 ^ p.Doors.length ≤ 256 := by
  have c := hp.d
  have p8 : 2 ^ p.Doors.length ≤ 256 := by
    calc 2 ^ p.Doors.length ≤ 2 ^ 8 := Nat.pow_le_pow_right (by decide) c
      _ = 256 := by decide
  refine ⟨?_, p8⟩
  rw [shlI_one (by omega)]
  generalize 2 ^ p.Doors.length = m at p8
  exact w64_eq (by omega) (by omega)

/-- What is said in the last ticks. -/
theorem any_told {p : Panel} {l : List Signal} {n t d : Nat} {out : List Control_tick} (hP : Played p l n out) (ht : t < n) {g : Gate} (hg : p.Doors[d]? = some g) (w0 : 1 ≤ g.Wait) :
    ((out.take (t + 1)).drop (lo g t)).any (fun x => x.said[d]? == some 1) = toldAt p l g t := by
  have hl := hP.1
  have hlo : lo g t ≤ t := by unfold lo; omega
  rw [Bool.eq_iff_iff, List.any_eq_true]
  unfold toldAt toldN
  rw [List.any_eq_true]
  constructor
  · rintro ⟨x, hx, h⟩
    obtain ⟨q, hq, e⟩ := List.getElem_of_mem hx
    have hx' : ((out.take (t + 1)).drop (lo g t))[q]? = some x := by rw [List.getElem?_eq_getElem hq, e]
    rw [List.getElem?_drop, List.getElem?_take] at hx'
    have hq' : q < min (t + 1) out.length - lo g t := by simpa using hq
    rw [if_pos (by omega)] at hx'
    refine ⟨q, by simp; omega, ?_⟩
    rw [(hP.2 _ x hx').said d g hg] at h
    simpa using h
  · rintro ⟨q, hq, h⟩
    have hq : q < t + 1 - lo g t := by simpa using hq
    obtain ⟨x, hx⟩ : ∃ x, out[lo g t + q]? = some x := ⟨_, List.getElem?_eq_getElem (by omega)⟩
    refine ⟨x, List.mem_of_getElem? (i := q) ?_, ?_⟩
    · rw [List.getElem?_drop, List.getElem?_take, if_pos (by omega)]; exact hx
    · rw [(hP.2 _ x hx).said d g hg]; simpa using h

theorem first_loops {c : Nat → Nat → Bool} {n m : Nat} {B : Nat → Unit → Option (Unit ⊕ (Int × Int × Int))} {D : Nat → Nat → Unit → Option (Unit ⊕ (Unit ⊕ (Int × Int × Int)))}
    (hD : ∀ t d, t < n → d < m → D t d () = some (if c t d then .inr (.inr ((t : Int), (d : Int), 0)) else .inl ()))
    (hB : ∀ t, t < n → B t () = (forN (D t) m 0 ()).bind fun o => onL o fun _ => some (.inl ())) :
    Tot ((forN B n 0 ()).bind fun o => onL o fun _ => some (-1, -1, 0)) (First c n m) := by
  refine Tot.bind _ (Tot.forN (fun t _ => ∀ t' d, t' < t → d < m → c t' d = false) (fun r => ∃ t d : Nat, t < n ∧ d < m ∧ c t d = true ∧ r = ((t : Int), (d : Int), 0) ∧ ∀ t' d', d' < m → (t' < t ∨ (t' = t ∧ d' < d)) → c t' d' = false) (fun t' d h => by omega) ?_) ?_
  · rintro t ⟨⟩ ht hI
    rw [hB t ht]
    refine Tot.bind _ (Tot.forN (fun d _ => ∀ d', d' < d → c t d' = false) (fun r => ∃ d : Nat, d < m ∧ c t d = true ∧ r = .inr ((t : Int), (d : Int), 0) ∧ ∀ d', d' < d → c t d' = false) (fun d h => by omega) ?_) ?_
    · rintro d ⟨⟩ hd hJ
      rw [hD t d ht hd]
      cases h : c t d with
      | true => exact .pure ⟨d, hd, h, rfl, hJ⟩
      | false =>
        refine .pure fun d' hd' => ?_
        rcases Nat.lt_succ_iff_lt_or_eq.1 hd' with h' | rfl
        · exact hJ d' h'
        · exact h
    · intro o ho
      refine Tot.onL ho (fun _ hJ => .pure fun t' d ht' hd => ?_) ?_
      · rcases Nat.lt_succ_iff_lt_or_eq.1 ht' with h' | rfl
        · exact hI t' d h' hd
        · exact hJ d hd
      · rintro r ⟨d, hd, hc, rfl, hJ⟩
        refine ⟨t, d, ht, hd, hc, rfl, fun t' d' hd' h => ?_⟩
        rcases h with h | ⟨rfl, h⟩
        · exact hI t' d' h hd'
        · exact hJ d' h
  · intro o ho
    exact Tot.onL ho (fun _ hI => .pure (.inl ⟨rfl, hI⟩)) (fun r hr => .inr hr)

theorem F34_safes (p : Panel) (ticks : Int) (l : List Signal) (rows : List Int) : Tot (F34 p ticks l rows) (SafesIs p ticks l rows) := by
  unfold F34
  refine Tot.bind _ (F45_err p ticks l) fun r hr => ?_
  by_cases h : err p ticks l = 0
  case neg =>
    rw [if_pos (by simp [hr.1, h])]
    exact .pure (.inl ⟨h, by rw [hr.1]⟩)
  obtain ⟨hp, ht, hL⟩ := err_zero h
  have hP := hr.2 h
  have hol := hP.1
  obtain ⟨hw, p8⟩ := two_doors hp
  have c8 := hp.d
  rw [if_neg (by simp [hr.1, h])]
  by_cases hlen : (rows.length : Int) = ticks
  case neg =>
    rw [if_pos (by simpa using hlen)]
    exact .pure (.inr (.inl ⟨h, fun hh => hlen hh.1, rfl⟩))
  rw [if_neg (by simpa using hlen)]
  have e54 : F54 rows (fun x0_ => F55 x0_ p) = some (rows.any fun x => !decide (0 ≤ x ∧ x ≤ ((2 ^ p.Doors.length : Nat) : Int) - 1)) := by
    unfold F54 F73
    refine index_any fun x hx => ?_
    unfold F55
    rw [nn?_le (by omega), F48_eq]
    simp only [Option.bind_some, hw]
  rw [e54]
  simp only [Option.bind_some]
  by_cases hbad : (rows.any fun x => !decide (0 ≤ x ∧ x ≤ ((2 ^ p.Doors.length : Nat) : Int) - 1)) = true
  · rw [if_pos hbad]
    refine .pure (.inr (.inl ⟨h, fun hh => ?_, rfl⟩))
    obtain ⟨x, hx, hn⟩ := List.any_eq_true.1 hbad
    have := hh.2 x hx
    simp only [Bool.not_eq_true', decide_eq_false_iff_not] at hn; exact hn this
  rw [if_neg hbad]
  have hok : RowsOk p ticks rows := by
    refine ⟨hlen, fun x hx => ?_⟩
    simp only [List.any_eq_true, not_exists, not_and] at hbad
    have := hbad x hx
    simp only [Bool.not_eq_true, Bool.not_eq_false', decide_eq_true_eq] at this; exact this
  simp only [Option.bind_some]
  refine Tot.onL (I := fun _ => True) (E := fun _ => False) trivial (fun _ _ => ?_) (fun _ h => h.elim)
  obtain ⟨f, e47, m, hF⟩ := F47_law hp
  have en : rows.length = ticks.toNat := by omega
  refine Tot.mono (P := First (badAt p l rows f) ticks.toNat p.Doors.length) ?_ (fun q hq => .inr (.inr ⟨h, hok, m, f, hF, hq⟩))
  rw [en]
  refine first_loops (D := ?D) ?hD ?hB
  case hB =>
    intro t ht'
    have hrow : rows[t]? = some (rows.getD t 0) := by rw [List.getD_eq_getElem?_getD, List.getElem?_eq_getElem (by omega)]; rfl
    rw [at?_nat, hrow]
    rfl
  case hD =>
    intro t d ht' hd
    have hrow : rows[t]? = some (rows.getD t 0) := by rw [List.getD_eq_getElem?_getD, List.getElem?_eq_getElem (by omega)]; rfl
    obtain ⟨g, hg⟩ : ∃ g, p.Doors[d]? = some g := ⟨_, List.getElem?_eq_getElem hd⟩
    have G := hp.g g (List.mem_of_getElem? hg)
    have g0 := G.w0; have g1 := G.w1
    obtain ⟨x, hx⟩ : ∃ x, r.1[t]? = some x := ⟨_, List.getElem?_eq_getElem (by omega)⟩
    have X := hP.2 t x hx
    rw [at?_nat, hg]
    simp only [Option.bind_some]
    rw [w64_eq (n := (t : Int) - g.Wait) (by omega) (by omega), w64_eq (n := (t : Int) - g.Wait + 1) (by omega) (by omega), w64_eq (n := (t : Int) + 1) (by omega) (by omega), maxI_eq]
    have elo : (max 0 ((t : Int) - g.Wait + 1)).toNat = lo g t := by unfold lo; omega
    have esub : sub? r.1 (max 0 ((t : Int) - g.Wait + 1)) ((t : Int) + 1) = some ((r.1.take (t + 1)).drop (lo g t)) := by
      unfold sub?; rw [if_pos ⟨by omega, by omega, by omega⟩, elo]; rfl
    rw [esub]
    simp only [Option.bind_some]
    have e56 : F56 ((r.1.take (t + 1)).drop (lo g t)) (fun x0_ => F57 x0_ (d : Int)) = some (((r.1.take (t + 1)).drop (lo g t)).any fun x => x.said[d]? == some 1) := by
      unfold F56 F74
      refine index_any fun y hy => ?_
      obtain ⟨q, hq, e⟩ := List.getElem_of_mem (List.mem_of_mem_take (List.mem_of_mem_drop hy))
      have T := (hP.2 q y (by rw [List.getElem?_eq_getElem hq, e])).said d g hg
      unfold F57
      rw [at?_nat, T]
      simp only [Option.bind_some]
      by_cases h : says p l q g = 1 <;> simp [h]
    rw [e56, any_told hP ht' hg g0, nn?_le (by omega), at?_nat, hx, e47]
    simp only [Option.bind_some]
    have eb : badAt p l rows f t d = (bitI (rows.getD t 0) d && (!pw p l t || (decide (f ≤ (t : Int)) || !toldAt p l g t))) := by unfold badAt; rw [hg, hrow]
    rw [eb, X.power]
    show (Option.bind (if bitI (rows.getD t 0) d = true then _ else _) _) = _
    cases bitI (rows.getD t 0) d <;> cases pw p l t <;> cases decide (f ≤ (t : Int)) <;> cases toldAt p l g t <;> rfl

theorem F35_safes (p : Panel) (ticks : Int) (l : List Signal) (rows : List Int) : Tot (F35 p ticks l rows) (SafesIs p ticks l rows) := by
  unfold F35
  rw [F51_eq]
  simp only [Option.bind_some]
  by_cases h : err p ticks l = 0
  case neg =>
    rw [if_pos (by simp [h])]
    exact .pure (.inl ⟨h, rfl⟩)
  obtain ⟨hp, ht, hL⟩ := err_zero h
  obtain ⟨hw, p8⟩ := two_doors hp
  have c8 := hp.d
  rw [if_neg (by simp [h])]
  by_cases hlen : (rows.length : Int) = ticks
  case neg =>
    rw [if_pos (by simpa using hlen)]
    exact .pure (.inr (.inl ⟨h, fun hh => hlen hh.1, rfl⟩))
  rw [if_neg (by simpa using hlen)]
  refine Tot.eq (cnt?_le (by omega)) ?_
  rw [wu64_nat (by omega), hw]
  simp only [F43_eq, Option.bind_some]
  have en : rows.length = ticks.toNat := by omega
  refine Tot.bind _ (Tot.forN (fun i _ => ∀ j, j < i → ∀ x, rows[j]? = some x → 0 ≤ x ∧ x ≤ ((2 ^ p.Doors.length : Nat) : Int) - 1) (fun r => r = (0, 0, 1) ∧ ¬RowsOk p ticks rows) (fun j hj => by omega) ?_) ?_
  · intro j _ hj hI
    obtain ⟨x, hx⟩ : ∃ x, rows[j]? = some x := ⟨_, List.getElem?_eq_getElem (by omega)⟩
    rw [at?_nat, hx]
    simp only [Option.bind_some]
    refine Tot.ite (fun h => .pure ⟨rfl, fun hh => ?_⟩) fun h => .pure ?_
    · have := hh.2 x (List.mem_of_getElem? hx)
      simp only [Bool.not_eq_true', decide_eq_false_iff_not] at h; exact h this
    · intro q hq y hy
      rcases Nat.lt_succ_iff_lt_or_eq.1 hq with h' | rfl
      · exact hI q h' y hy
      · rw [hx] at hy; cases hy
        simp only [Bool.not_eq_true', decide_eq_false_iff_not, Classical.not_not] at h; exact h
  intro o ho
  refine Tot.onL ho ?_ (fun r hr => .inr (.inl ⟨h, hr.2, hr.1⟩))
  rintro _ hrows
  have hok : RowsOk p ticks rows := by
    refine ⟨hlen, fun x hx => ?_⟩
    obtain ⟨q, hq, e⟩ := List.getElem_of_mem hx
    exact hrows q (by omega) x (by rw [List.getElem?_eq_getElem hq, e])
  refine Tot.bind _ (F52_spec hp ht.1 ht.2 (fun x hx => (hL.2 x hx).good.k1)) fun out hO => ?_
  have hol := hO.1
  refine Tot.bind _ (F38_law hp) fun fr hfr => ?_
  obtain ⟨f, e38⟩ := fr
  obtain ⟨_, m, hF⟩ := hfr
  simp only at hF ⊢
  refine Tot.eq (cnt?_le (by omega)) ?_
  refine Tot.mono (P := First (badAt p l rows f) ticks.toNat p.Doors.length) ?_ (fun q hq => .inr (.inr ⟨h, hok, m, f, hF, hq⟩))
  refine first_loops (D := ?D) ?hD ?hB
  case hB =>
    intro t ht'
    rfl
  case hD =>
    intro t d ht' hd
    have hrow : rows[t]? = some (rows.getD t 0) := by rw [List.getD_eq_getElem?_getD, List.getElem?_eq_getElem (by omega)]; rfl
    obtain ⟨g, hg⟩ : ∃ g, p.Doors[d]? = some g := ⟨_, List.getElem?_eq_getElem hd⟩
    have G := hp.g g (List.mem_of_getElem? hg)
    have g0 := G.w0; have g1 := G.w1
    obtain ⟨x, hx⟩ : ∃ x, out[t]? = some x := ⟨_, List.getElem?_eq_getElem (by omega)⟩
    have X := hO.2 t x hx
    rw [at?_nat, hg]
    simp only [Option.bind_some]
    rw [w64_eq (n := (t : Int) - g.Wait) (by omega) (by omega), w64_eq (n := (t : Int) - g.Wait + 1) (by omega) (by omega), maxI_eq]
    have elo : max 0 ((t : Int) - g.Wait + 1) = (lo g t : Int) := by unfold lo; omega
    have hlo : lo g t ≤ t := by unfold lo; omega
    rw [elo]
    have loop : Tot (whileO (σ := (Bool × Int)) (ρ := (Bool × Int)) (fun s17 =>
       if decide (s17.2 ≤ (t : Int)) then
       (if s17.1 then
       (some (Sum.inl (true, w64 (s17.2 + 1))))
       else
       ((at? out s17.2).bind fun x179 =>
       (at? x179.Told (d : Int)).bind fun x180 =>
       some (Sum.inl (x180 == 1, w64 (s17.2 + 1)))))
       else
       (some (Sum.inr (s17.1, s17.2)))) (false, (lo g t : Int))) (fun s => s.1 = toldAt p l g t) := by
      refine whileO_inv (fun j (s : Bool × Int) => s.2 = ((lo g t + j : Nat) : Int) ∧ s.1 = toldN p l g (lo g t) j) _ (t + 1 - lo g t) 0 _ ⟨by simp, rfl⟩ ?_ ?_
      · rintro j ⟨b, k⟩ _ hj ⟨e1, e2⟩
        simp only at e1 e2 ⊢
        subst e1 e2
        have nx : w64 (((lo g t + j : Nat) : Int) + 1) = ((lo g t + (j + 1) : Nat) : Int) := by rw [w64_eq (by omega) (by omega)]; omega
        obtain ⟨y, hy⟩ : ∃ y, out[lo g t + j]? = some y := ⟨_, List.getElem?_eq_getElem (by omega)⟩
        have Y := hO.2 _ y hy
        rw [if_pos (by simp; omega), at?_nat, hy]
        simp only [Option.bind_some]
        rw [at?_nat, Y.told d g hg]
        simp only [Option.bind_some]
        cases hb : toldN p l g (lo g t) j with
        | true => exact .inl ⟨_, rfl, nx, by rw [toldN_succ, hb]; rfl⟩
        | false => exact .inl ⟨_, rfl, nx, by rw [toldN_succ, hb]; rfl⟩
      · rintro ⟨b, k⟩ ⟨e1, e2⟩
        simp only at e1 e2 ⊢
        rw [Nat.zero_add] at e1 e2
        refine ⟨(b, k), by rw [if_neg (by simp; omega)], ?_⟩
        exact e2
    obtain ⟨⟨tl, kk⟩, e3, e4⟩ := loop
    simp only at e4
    subst e4
    rw [e3]
    simp only [Option.bind_some]
    have c : d ≤ 60 := by omega
    rw [wu64_nat c, at?_nat, hrow, at?_nat, hx]
    simp only [Option.bind_some]
    have eb : badAt p l rows f t d = (bitI (rows.getD t 0) d && (!pw p l t || (decide (f ≤ (t : Int)) || !toldAt p l g t))) := by unfold badAt; rw [hg, hrow]
    rw [eb, X.power]
    show (Option.bind (if bitI (rows.getD t 0) d = true then _ else _) _) = _
    cases bitI (rows.getD t 0) d <;> cases pw p l t <;> cases decide (f ≤ (t : Int)) <;> cases toldAt p l g t <;> rfl

theorem F10_law (p : Panel) (l : List Signal) (x : Law08_Film) : F10 p l x = some true := by
  unfold F10
  rw [F20_eq, F16_law]
  simp only [Option.bind_some]
  obtain ⟨r, e1, r1⟩ := F34_safes p x.Ticks l x.Rows
  obtain ⟨q, e2, q1⟩ := F35_safes p x.Ticks l x.Rows
  rw [e1, e2, SafesIs.uniq r1 q1]
  simp
end Go.Proofs.Ytfeomcdhhgeilaa.Pad
