/- The law of time over the pure functions. -/
import Derived.Test.YtfeomcdhhgeilaaLawFrees
import Derived.Test.YtfeomcdhhgeilaaLawSilence
set_option linter.unusedVariables false
set_option linter.unusedSimpArgs false
namespace Go.Proofs.Ytfeomcdhhgeilaa.Pad
open Go

theorem row_zero {row : Int} {f : Nat → Bool} (h : RowIs row f) (hf : ∀ d, f d = false) : row = 0 := by
  obtain ⟨n, rfl, _, h2⟩ := h
  have : n = 0 := Nat.eq_of_testBit_eq fun i => by rw [h2, hf]; simp
  rw [this]; rfl

theorem fold_three {l : List Signal} (h : ∀ x ∈ l, x.Kind = 3) (t : Nat) : ∀ (s : Bool × List Int), l.foldl (stp t) s = s := by
  induction l with
  | nil => intro s; rfl
  | cons x l ih =>
    intro s
    have hx := h x (by simp)
    rw [List.foldl_cons, ih (fun y hy => h y (by simp [hy]))]
    unfold stp
    simp [hx]

section
variable {p : Panel} {d : Nat} {g : Gate} {lit : Sense} {value : Int} {rest : List Signal}
/-- The play that keeps a door shut up to the freeing tick. -/
structure OwnPlay (p : Panel) (d : Nat) (lit : Sense) (value : Int) (m : Int) (rest : List Signal) : Prop where
  k : ∀ x ∈ rest, x.Kind = 3 ∧ x.Number = (d : Int) ∧ x.Value = 0 ∧ p.Limit ≤ x.At ∧ x.At < p.Limit + m - 1
  all : ∀ t : Int, p.Limit ≤ t → t < p.Limit + m - 1 → (⟨t, 3, d, 0⟩ : Signal) ∈ rest
theorem own_env {m : Int} (h : OwnPlay p d lit value m rest) (S : Nat) : ∀ t, env (⟨0, 1, lit.Sensor, value⟩ :: rest) S (t + 1) = (true, (List.replicate S 0).set lit.Sensor.toNat value)
  | 0 => by
    unfold env
    rw [List.foldl_cons, fold_three (fun x hx => (h.k x hx).1)]
    simp [stp, env]
  | t + 1 => by
    unfold env
    rw [own_env h S t, List.foldl_cons, fold_three (fun x hx => (h.k x hx).1)]
    have : (0 : Int) ≠ ((t + 1 : Nat) : Int) := by omega
    simp [stp]
    try omega
theorem own_has {m : Int} (h : OwnPlay p d lit value m rest) {t : Nat} {k : Int} (h1 : k ≠ 1) (h3 : k ≠ 3) (i : Nat) : hasL (⟨0, 1, lit.Sensor, value⟩ :: rest) t k i = false := by
  unfold hasL
  rw [List.any_eq_false]
  intro x hx
  rcases List.mem_cons.1 hx with rfl | hx
  · simp; intro _ h; exact absurd h.symm h1
  · have := (h.k x hx).1
    simp; intro _ h; omega
theorem own_has3 {m : Int} (h : OwnPlay p d lit value m rest) (t : Nat) : hasL (⟨0, 1, lit.Sensor, value⟩ :: rest) t 3 d = decide (p.Limit ≤ (t : Int) ∧ (t : Int) < p.Limit + m - 1) := by
  unfold hasL
  by_cases ht : p.Limit ≤ (t : Int) ∧ (t : Int) < p.Limit + m - 1
  · rw [decide_eq_true ht, List.any_eq_true]
    exact ⟨_, List.mem_cons_of_mem _ (h.all t ht.1 ht.2), by simp⟩
  · rw [decide_eq_false ht, List.any_eq_false]
    intro x hx
    rcases List.mem_cons.1 hx with rfl | hx
    · simp
    · have := h.k x hx
      simp; intro h1 h2; omega

theorem own_shut (hp : GoodPanel p) (hd : p.Doors[d]? = some g) {m : Int} (hm : g.Wait = m) (h : OwnPlay p d lit value m rest) (hl : lit ∈ g.When) (hv : (value == lit.Value) = lit.Not) :
    sh p (⟨0, 1, lit.Sensor, value⟩ :: rest) d g (p.Limit + m - 1).toNat = true := by
  have G := hp.g g (List.mem_of_getElem? hd)
  have g0 := G.w0; have L0 := hp.l0; have S0 := G.s lit hl; have ST := hp.st0
  have hpw : ∀ t, pw p (⟨0, 1, lit.Sensor, value⟩ :: rest) t = true := fun t => by unfold pw; rw [own_env h]
  have hlive : ∀ t i, live p (⟨0, 1, lit.Sensor, value⟩ :: rest) t i = true := fun t i => by
    unfold live; rw [hpw, own_has h (by decide) (by decide)]; rfl
  have hka : ∀ t i, ka p (⟨0, 1, lit.Sensor, value⟩ :: rest) (t + 1) i = 0 := fun t i => by
    unfold ka; rw [hlive]; rfl
  have hkv : ∀ t, kv p (⟨0, 1, lit.Sensor, value⟩ :: rest) (t + 1) lit.Sensor.toNat = value := fun t => by
    unfold kv; rw [hlive]
    simp only [if_true]
    unfold sen
    rw [own_env h]
    have : lit.Sensor.toNat < p.Sensors.toNat := by omega
    simp [List.getElem?_set, this]
  have hdec : ∀ t : Nat, (t : Int) < p.Limit → dec p (⟨0, 1, lit.Sensor, value⟩ :: rest) t g = 1 := fun t ht => by
    unfold dec
    rw [if_neg (by omega)]
    have e1 : staleB p (⟨0, 1, lit.Sensor, value⟩ :: rest) t g = false := by
      unfold staleB
      rw [List.any_eq_false]
      intro x _
      rw [hka, decide_eq_false (by omega)]; decide
    have e2 : failsB p (⟨0, 1, lit.Sensor, value⟩ :: rest) t g = true := by
      unfold failsB
      rw [List.any_eq_true]
      exact ⟨lit, hl, by rw [hkv, hv]; simp⟩
    rw [e1, e2]; rfl
  have hear1 : ∀ t : Nat, (t : Int) < p.Limit → hears p (⟨0, 1, lit.Sensor, value⟩ :: rest) t d g = 1 := fun t ht => by
    unfold hears says
    rw [own_has3 h, decide_eq_false (by omega), hpw, hdec t ht]; rfl
  have hear0 : ∀ t : Nat, p.Limit ≤ (t : Int) → (t : Int) < p.Limit + m - 1 → hears p (⟨0, 1, lit.Sensor, value⟩ :: rest) t d g = 0 := fun t ht ht' => by
    unfold hears
    rw [own_has3 h, decide_eq_true ⟨ht, ht'⟩]; rfl
  have key : ∀ k : Nat, (k : Int) ≤ m - 1 → lf p (⟨0, 1, lit.Sensor, value⟩ :: rest) d g (p.Limit.toNat + k) = m - k := by
    intro k
    induction k with
    | zero =>
      intro _
      obtain ⟨q, hq⟩ : ∃ q : Nat, p.Limit.toNat = q + 1 := ⟨p.Limit.toNat - 1, by omega⟩
      rw [Nat.add_zero, hq]
      unfold lf nextL
      rw [hpw, hear1 q (by omega)]
      simp; omega
    | succ k ih =>
      intro hk
      have := ih (by omega)
      show lf p _ d g (p.Limit.toNat + k + 1) = _
      unfold lf nextL
      rw [hpw, hear0 _ (by omega) (by omega), this]
      simp; omega
  obtain ⟨q, hq⟩ : ∃ q : Nat, (p.Limit + m - 1).toNat = q + 1 := ⟨(p.Limit + m - 1).toNat - 1, by omega⟩
  have hlast : lf p (⟨0, 1, lit.Sensor, value⟩ :: rest) d g (q + 1) = 1 := by
    have := key (m - 1).toNat (by omega)
    rw [show p.Limit.toNat + (m - 1).toNat = q + 1 by omega] at this
    omega
  rw [hq]
  unfold sh
  rw [hpw, hlast, own_has h (by decide) (by decide)]
  rfl
end

theorem F4_law (p : Panel) (ticks : Int) (l : List Signal) : F4 p ticks l = some true := by
  suffices h : Tot (F4 p ticks l) (fun r => r = true) by
    obtain ⟨r, h, rfl⟩ := h; exact h
  unfold F4 F20
  simp only [F16_law, Option.bind_some]
  refine Tot.bind (fun _ => True) (Tot.ite (fun _ => .pure trivial) fun _ => .pure trivial) fun b _ => ?_
  refine Tot.ite (fun _ => .pure rfl) fun _ => ?_
  refine Tot.bind _ (F21_law p) fun fr hfr => ?_
  refine Tot.ite (fun _ => .pure rfl) fun h0 => ?_
  obtain ⟨hp, m, hF⟩ := hfr (by simpa using h0)
  obtain ⟨f, e⟩ := fr
  simp only at hF h0 ⊢
  refine Tot.bind _ (F17_spec hp l) fun r hr => ?_
  obtain ⟨rows, e⟩ := r
  simp only at hr ⊢
  have L0 := hp.l0; have L1 := hp.l1; have m0 := hF.m0; have m1 := hF.m1; have hff := hF.f
  have c8 := hp.d
  -- no door is shut from the freeing tick on
  refine Tot.bind (Sum.elim (fun _ => True) (fun _ => False)) ?_ ?_
  · let n : Nat := if e = 0 then rows.length else 0
    have hrow : e = 0 → rows.length ≤ 1000 ∧ ∀ (t : Nat), t < rows.length → f ≤ (t : Int) → rows[t]? = some 0 := by
      intro he
      rcases hr with ⟨t0, t1, _, _, hR⟩ | ⟨_, hne⟩
      · refine ⟨by have := hR.1; omega, fun t ht hft => ?_⟩
        have hx := hR.2 t rows[t] (List.getElem?_eq_getElem ht)
        rw [List.getElem?_eq_getElem ht, row_zero hx fun d => ?_]
        unfold shutAt
        cases hd : p.Doors[d]? with
        | none => rfl
        | some g => exact sh_free hp hF hd hft
      · exact absurd he hne
    refine whileO_inv (fun i (s : Int) => s = (i : Int)) _ n 0 0 rfl ?_ ?_
    · rintro j s _ hj rfl
      have hj : j < n := by omega
      by_cases he : e = 0
      · have hn : n = rows.length := by simp only [n]; rw [if_pos he]
        have hj2 : j < rows.length := by omega
        obtain ⟨r1, r2⟩ := hrow he
        refine .inl ⟨w64 ((j : Int) + 1), ?_, by rw [w64_eq (by omega) (by omega)]; omega⟩
        simp only [he, beq_self_eq_true, if_true]
        rw [if_pos (by simpa using hj2)]
        simp only [Option.bind_some, onL]
        by_cases hfj : f ≤ (j : Int)
        · rw [if_pos (by simpa using hfj), at?_nat, r2 j hj2 hfj]
          rfl
        · rw [if_neg (by simpa using hfj)]
      · exfalso
        simp only [n] at hj
        rw [if_neg he] at hj; omega
    · rintro s rfl
      refine ⟨.inl ((0 + n : Nat) : Int), ?_, trivial⟩
      by_cases he : e = 0
      · have hn : n = rows.length := by simp only [n]; rw [if_pos he]
        simp only [he, beq_self_eq_true, if_true]
        rw [if_neg (by simp; omega)]
        rfl
      · rw [if_neg (by simpa using he)]
        rfl
  intro o ho
  refine Tot.onL ho ?_ (fun r hr => hr.elim)
  intro _ _
  refine Tot.bind (Sum.elim (fun _ => 0 < f ∧ f ≤ 60) (fun r => r = true)) ?_ ?_
  · refine Tot.bind (fun v => v = decide (f ≤ 0 ∨ 60 < f)) ?_ ?_
    · refine Tot.ite (fun h => .pure ?_) fun h => .pure ?_
      · simp at h; simp [h]
      · simp at h
        have : ¬ f ≤ 0 := by omega
        simp [this]
    rintro _ rfl
    refine Tot.ite (fun h => ?_) fun h => .pure ?_
    · refine Tot.ite (fun _ => .pure rfl) fun h' => ?_
      exfalso
      simp at h'
      rw [hff] at h'
      split at h' <;> omega
    · simp at h; exact h
  intro o ho
  refine Tot.onL ho ?_ (fun r hr => hr)
  rintro _ ⟨f0, f60⟩
  have hm : m ≠ 0 := by
    intro h; rw [hff, if_pos h] at f0; omega
  rw [if_neg hm] at hff
  refine Tot.bind _ (Tot.forS (fun i (s : Int) => (s = -1 ∧ ∀ (j : Nat) g, j < i → p.Doors[j]? = some g → g.When = []) ∨
    ∃ (d : Nat) (g : Gate), s = (d : Int) ∧ p.Doors[d]? = some g ∧ g.When ≠ [] ∧ ∀ (j : Nat) g', j < i → p.Doors[j]? = some g' → g'.When ≠ [] → g'.Wait ≤ g.Wait) (.inl ⟨rfl, fun j g hj => by omega⟩) ?_) ?_
  · intro i s hi hI
    refine Tot.bind _ (Tot.atN hi) fun g hg => ?_
    have last : ∀ {Q : Nat → Gate → Prop}, (∀ (j : Nat) g, j < i → p.Doors[j]? = some g → Q j g) → Q i g → ∀ (j : Nat) g, j < i + 1 → p.Doors[j]? = some g → Q j g := by
      intro Q h1 h2 j g' hj hg'
      rcases Nat.lt_succ_iff_lt_or_eq.1 hj with h | rfl
      · exact h1 j g' h hg'
      · rw [hg] at hg'; cases hg'; exact h2
    refine Tot.ite (fun h => ?_) fun h => .pure ?_
    · have hne : g.When ≠ [] := by
        intro e; rw [e] at h; simp at h
      rcases hI with ⟨rfl, hI⟩ | ⟨d, g1, rfl, hd, hw, hI⟩
      · rw [if_pos (by decide)]
        exact .pure (.inr ⟨i, g, rfl, hg, hne, last (fun j g' hj hg' hw => absurd (hI j g' hj hg') hw) (fun _ => Int.le_refl _)⟩)
      · rw [if_neg (by simp)]
        rw [at?_nat, hd]
        simp only [Option.bind_some]
        refine Tot.ite (fun h' => .pure (.inr ⟨i, g, rfl, hg, hne, last (fun j g' hj hg' hw => ?_) (fun _ => Int.le_refl _)⟩)) fun h' => .pure (.inr ⟨d, g1, rfl, hd, hw, last hI (fun _ => ?_)⟩)
        · have := hI j g' hj hg' hw
          simp at h'; omega
        · simp at h'; exact h'
    · have he : g.When = [] := by
        cases hw : g.When with
        | nil => rfl
        | cons a b => rw [hw] at h; simp at h
      rcases hI with ⟨rfl, hI⟩ | ⟨d, g1, rfl, hd, hw, hI⟩
      · exact .inl ⟨rfl, last hI he⟩
      · exact .inr ⟨d, g1, rfl, hd, hw, last hI (fun hw => absurd he hw)⟩
  intro s hs
  obtain ⟨d, g, rfl, hd, hw, hmax⟩ : ∃ (d : Nat) (g : Gate), s = (d : Int) ∧ p.Doors[d]? = some g ∧ g.When ≠ [] ∧ ∀ (j : Nat) g', j < p.Doors.length → p.Doors[j]? = some g' → g'.When ≠ [] → g'.Wait ≤ g.Wait := by
    rcases hs with ⟨_, hI⟩ | h
    · exfalso
      rcases hF.some_ with h | ⟨g, hg, hw, _⟩
      · exact hm h
      · obtain ⟨q, hq, e⟩ := List.getElem_of_mem hg
        exact hw (hI q g hq (by rw [List.getElem?_eq_getElem hq, e]))
    · exact h
  have hgm : g.Wait = m := by
    have h1 := hF.all g (List.mem_of_getElem? hd) hw
    rcases hF.some_ with h | ⟨g', hg', hw', he'⟩
    · exact absurd h hm
    · obtain ⟨q, hq, e⟩ := List.getElem_of_mem hg'
      have := hmax q g' hq (by rw [List.getElem?_eq_getElem hq, e]) hw'
      omega
  have G := hp.g g (List.mem_of_getElem? hd)
  have g0 := G.w0
  have hdl := (List.getElem?_eq_some_iff.1 hd).1
  rw [if_neg (by simp)]
  rw [at?_nat, hd]
  simp only [Option.bind_some]
  have hlen : 0 < g.When.length := List.length_pos_iff.2 hw
  refine Tot.bind _ (Tot.at_ (by decide) (by omega)) fun lit hlit => ?_
  have hlm : lit ∈ g.When := List.mem_of_getElem? hlit
  have S0 := G.s lit hlm
  refine Tot.bind (fun v => 0 ≤ v ∧ v ≤ 9 ∧ (v == lit.Value) = lit.Not) ?_ ?_
  · refine Tot.ite (fun h => ?_) fun h => .pure ⟨S0.2.2.1, S0.2.2.2, ?_⟩
    · rw [w64_eq (by omega) (by omega)]
      refine Tot.eq (md_pos (by decide)) (.pure ⟨Int.tmod_nonneg _ (by omega), ?_, ?_⟩)
      · have := Int.tmod_lt_of_pos (lit.Value + 1) (show (0 : Int) < 10 by decide)
        omega
      · have hn : lit.Not = false := by simpa using h
        rw [hn]
        have : (lit.Value + 1).tmod 10 ≠ lit.Value := by
          rw [Int.tmod_eq_emod_of_nonneg (by omega)]; omega
        simpa using this
    · have hn : lit.Not = true := by simpa using h
      rw [hn]; simp
  rintro value ⟨v0, v1, v2⟩
  refine Tot.bind (fun (s : List Signal × Int) => ∃ rest, s.1 = ⟨0, 1, lit.Sensor, value⟩ :: rest ∧ rest.length ≤ 60 ∧ OwnPlay p d lit value m rest) ?_ ?_
  · refine whileO_inv (fun i (s : List Signal × Int) => s.2 = p.Limit + i ∧ ∃ rest, s.1 = ⟨0, 1, lit.Sensor, value⟩ :: rest ∧ rest.length = i ∧
      (∀ x ∈ rest, x.Kind = 3 ∧ x.Number = (d : Int) ∧ x.Value = 0 ∧ p.Limit ≤ x.At ∧ x.At < p.Limit + i) ∧ ∀ t : Int, p.Limit ≤ t → t < p.Limit + i → (⟨t, 3, d, 0⟩ : Signal) ∈ rest) _ (m - 1).toNat 0 _ ⟨by simp, [], rfl, rfl, fun x hx => by simp at hx, fun t a b => by omega⟩ ?_ ?_
    · rintro j ⟨s1, s2⟩ _ hj ⟨h1, rest, h2, h3, h4, h5⟩
      simp only at h1 h2 ⊢
      refine .inl ⟨(s1 ++ [⟨s2, 3, d, 0⟩], w64 (s2 + 1)), ?_, ?_, rest ++ [⟨s2, 3, d, 0⟩], by simp [h2], by simp [h3], ?_, ?_⟩
      · rw [if_pos (by simp; omega), push?_le (by simp [h2, h3]; omega)]; rfl
      · show w64 (s2 + 1) = _
        rw [w64_eq (by omega) (by omega)]; omega
      · intro x hx
        rcases List.mem_append.1 hx with hx | hx
        · obtain ⟨a1, a2, a3, a4, a5⟩ := h4 x hx
          exact ⟨a1, a2, a3, a4, by omega⟩
        · simp at hx; subst hx; exact ⟨rfl, rfl, rfl, by show p.Limit ≤ s2; omega, by show s2 < _; omega⟩
      · intro t a b
        by_cases h : t = s2
        · subst h; simp
        · exact List.mem_append_left _ (h5 t a (by omega))
    · rintro ⟨s1, s2⟩ ⟨h1, rest, h2, h3, h4, h5⟩
      simp only at h1 h2 ⊢
      refine ⟨(s1, s2), ?_, rest, h2, by omega, ⟨fun x hx => ?_, fun t a b => h5 t a (by omega)⟩⟩
      · rw [if_neg (by simp; omega)]
      · obtain ⟨a1, a2, a3, a4, a5⟩ := h4 x hx
        exact ⟨a1, a2, a3, a4, by omega⟩
  rintro ⟨own, tt⟩ ⟨rest, rfl, hrl, hO⟩
  simp only
  have legal : Legal p f (⟨0, 1, lit.Sensor, value⟩ :: rest) := by
    refine ⟨by simp; omega, fun x hx => ?_⟩
    rcases List.mem_cons.1 hx with rfl | hx
    · exact ⟨⟨Int.le_refl _, by show (0 : Int) ≤ _; omega⟩, .inl ⟨rfl, ⟨S0.1, by show lit.Sensor ≤ _; omega⟩, v0, v1⟩⟩
    · obtain ⟨a1, a2, a3, a4, a5⟩ := hO.k x hx
      exact ⟨⟨by omega, by omega⟩, .inr (.inr (.inl ⟨.inl a1, ⟨by omega, by omega⟩, a3⟩))⟩
  refine Tot.bind _ (F17_spec hp _) fun r hr => ?_
  obtain ⟨rows2, e2⟩ := r
  simp only at hr ⊢
  rcases hr with ⟨_, _, _, he2, hR⟩ | ⟨hn, _⟩
  · rw [if_pos (by simpa using he2)]
    have hl2 := hR.1
    rw [if_pos (by simp; omega), w64_eq (by omega) (by omega)]
    refine Tot.bind _ (Tot.at_ (by omega) (by omega)) fun row hrow => ?_
    obtain ⟨nn, rfl, n1, n2⟩ := hR.2 _ row hrow
    rw [F19_law (by omega) (by omega), n2]
    simp only [Option.bind_some]
    have hs : shutAt p (⟨0, 1, lit.Sensor, value⟩ :: rest) (f - 1).toNat d = true := by
      unfold shutAt
      rw [hd]
      show sh p _ d g ((f - 1).toNat + 1) = true
      rw [show (f - 1).toNat + 1 = (p.Limit + m - 1).toNat by omega]
      exact own_shut hp hd hgm hO hlm v2
    rw [hs]
    exact .pure rfl
  · exact absurd ⟨by omega, by omega, legal⟩ hn
end Go.Proofs.Ytfeomcdhhgeilaa.Pad
