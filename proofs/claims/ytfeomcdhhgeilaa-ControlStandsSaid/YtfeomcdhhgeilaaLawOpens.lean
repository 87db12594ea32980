/- The law of the lost messages, over the pure functions. -/
import Derived.Test.YtfeomcdhhgeilaaLawKnows
set_option linter.unusedVariables false
set_option linter.unusedSimpArgs false
namespace Go.Proofs.Ytfeomcdhhgeilaa.Pad
open Go

/-- The literals hold by what is sensed. -/
def holds (p : Panel) (l : List Signal) (t : Nat) (g : Gate) : Bool := !g.When.any fun s => (sen p l t s.Sensor.toNat == s.Value) == s.Not
theorem F23_sen {p : Panel} {l : List Signal} {t : Nat} {g : Gate} (hg : GoodGate p g) : F23 g.When (env l p.Sensors.toNat (t + 1)).2 = some (holds p l t g) :=
  F23_eq (f := fun i => sen p l t i) fun x hx => ⟨(hg.s x hx).1, sen_get p l t (by have := hg.s x hx; omega)⟩

theorem open_held {p : Panel} (hp : GoodPanel p) {l : List Signal} {d : Nat} {g : Gate} (hd : p.Doors[d]? = some g) {t : Nat} {h : Int} (h0 : p.Stale + g.Wait - 1 ≤ h) (h1 : h ≤ t + 1)
    (hh : ∀ u : Nat, u ≤ t → (t : Int) < u + h → holds p l u g = true) : sh p l d g (t + 1) = false := by
  have G := hp.g g (List.mem_of_getElem? hd)
  have w0 := G.w0; have s0 := hp.st0
  cases hs : sh p l d g (t + 1) with
  | false => rfl
  | true =>
    exfalso
    obtain ⟨_, hlf⟩ := sh_pw hs
    obtain ⟨u, u1, u2, u3⟩ := lf_told t hlf
    have hdec : dec p l u g = 1 := by
      unfold hears says at u2
      split at u2
      · cases u2
      · split at u2
        · exact u2
        · cases u2
    unfold dec at hdec
    split at hdec
    · cases hdec
    split at hdec
    · cases hdec
    rename_i _ hst
    split at hdec
    case isFalse => cases hdec
    rename_i hf
    unfold failsB at hf
    obtain ⟨x, hx, hxf⟩ := List.any_eq_true.1 hf
    have hx2 : ¬ p.Stale ≤ ka p l (u + 1) x.Sensor.toNat := by
      intro hc
      exact hst (List.any_eq_true.2 ⟨x, hx, decide_eq_true hc⟩)
    have kb := ka_le p l (u + 1) x.Sensor.toNat
    have ks := (kv_sen p l x.Sensor.toNat (u + 1)).1 (by omega)
    rw [ks] at hxf
    have := hh (((u + 1 : Nat) : Int) - 1 - ka p l (u + 1) x.Sensor.toNat).toNat (by omega) (by omega)
    unfold holds at this
    rw [List.any_eq_true.2 ⟨x, hx, hxf⟩] at this
    cases this

theorem bit_law {p : Panel} {l : List Signal} {t : Nat} {row : Int} (hr : RowIs row (shutAt p l t)) {d : Nat} {g : Gate} (hp : GoodPanel p) (hd : p.Doors[d]? = some g) : F19 row (d : Int) = some (sh p l d g (t + 1)) := by
  obtain ⟨n, rfl, n1, n2⟩ := hr
  have := (List.getElem?_eq_some_iff.1 hd).1
  have c := hp.d
  rw [F19_law (by omega) (by omega), n2]
  unfold shutAt; rw [hd]

theorem F5_law (p : Panel) (ticks : Int) (l : List Signal) : F5 p ticks l = some true := by
  suffices hh : Tot (F5 p ticks l) (fun r => r = true) by
    obtain ⟨r, e, rfl⟩ := hh; exact e
  unfold F5
  rw [F20_eq, F16_law, F22_eq]
  simp only [Option.bind_some]
  refine Tot.bind (Sum.elim (fun _ => err p ticks l = 0) (fun r => r = true)) ?_ ?_
  · exact Tot.ite (fun h => .pure rfl) fun h => Tot.ite (fun h => .pure rfl) fun h => .pure (by simpa using h)
  intro o ho
  refine Tot.onL ho ?_ (fun r hr => hr)
  rintro _ h
  obtain ⟨hp, ht, hL⟩ := err_zero h
  have a := hp.s0; have b := hp.s1
  refine Tot.bind _ (F17_err p ticks l) fun r hr => ?_
  obtain ⟨rows, e⟩ := r
  obtain ⟨r1, r2, _⟩ := hr
  simp only at r1 r2 ⊢
  have hR := r2 h
  rw [h] at r1; subst r1
  have hl := hR.1
  rw [if_neg (by decide), if_neg (by simp; omega)]
  refine Tot.bind _ (Tot.forN (fun _ _ => True) (fun _ => False) trivial ?_) ?_
  case refine_2 =>
    intro o ho
    exact Tot.onL ho (fun _ _ => .pure rfl) (fun _ h => h.elim)
  intro d _ hd _
  obtain ⟨g, hg⟩ : ∃ g, p.Doors[d]? = some g := ⟨_, List.getElem?_eq_getElem hd⟩
  have G := hp.g g (List.mem_of_getElem? hg)
  have w0 := G.w0; have w1 := G.w1; have s0 := hp.st0; have s1 := hp.st1
  refine Tot.eq (cnt?_le (by omega)) ?_
  refine Tot.bind _ (Tot.forN (fun t (h : Int) => 0 ≤ h ∧ h ≤ t ∧ ∀ u : Nat, u < t → (t : Int) ≤ u + h → holds p l u g = true) (fun _ => False) ⟨by decide, by decide, fun u hu => by omega⟩ ?_) ?_
  case refine_2 =>
    intro o ho
    exact Tot.onL ho (fun _ _ => .pure trivial) (fun _ h => h.elim)
  rintro t h0 ht' ⟨q0, q1, q2⟩
  rw [at?_nat, hg]
  simp only [Option.bind_some]
  rw [F24_eq a b (fun x hx => (hL.2 x hx).good.k1) (by omega)]
  simp only [Option.bind_some]
  rw [F23_sen G]
  simp only [Option.bind_some]
  refine Tot.bind (fun v => 0 ≤ v ∧ v ≤ ((t + 1 : Nat) : Int) ∧ ∀ u : Nat, u < t + 1 → ((t + 1 : Nat) : Int) ≤ u + v → holds p l u g = true) ?_ ?_
  · refine Tot.ite (fun hh => .pure ?_) fun hh => .pure ⟨by decide, by omega, fun u hu h => by omega⟩
    rw [w64_eq (by omega) (by omega)]
    refine ⟨by omega, by omega, fun u hu h => ?_⟩
    rcases Nat.lt_succ_iff_lt_or_eq.1 hu with h' | rfl
    · exact q2 u h' (by omega)
    · exact hh
  rintro v ⟨v0, v1, v2⟩
  have e1 : w64 (p.Stale + g.Wait) = p.Stale + g.Wait := w64_eq (by omega) (by omega)
  rw [e1, w64_eq (n := p.Stale + g.Wait - 1) (by omega) (by omega)]
  refine Tot.ite (fun hc => ?_) fun hc => .pure ⟨v0, v1, v2⟩
  have hc : p.Stale + g.Wait - 1 ≤ v := by simpa using hc
  obtain ⟨row, hrow⟩ : ∃ row, rows[t]? = some row := ⟨_, List.getElem?_eq_getElem (by omega)⟩
  rw [at?_nat, hrow]
  simp only [Option.bind_some]
  rw [bit_law (hR.2 t row hrow) hp hg]
  simp only [Option.bind_some]
  rw [open_held hp hg hc (by omega) (fun u hu hlt => v2 u (by omega) (by omega))]
  rw [if_neg (by decide)]
  exact .pure ⟨v0, v1, v2⟩
end Go.Proofs.Ytfeomcdhhgeilaa.Pad
