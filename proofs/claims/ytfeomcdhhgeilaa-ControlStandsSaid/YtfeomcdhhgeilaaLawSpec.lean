/- What begin makes of a good panel, told by recursion on the tick. -/
import Derived.Test.YtfeomcdhhgeilaaLawBegin
set_option linter.unusedVariables false
set_option linter.unusedSimpArgs false
namespace Go.Proofs.Ytfeomcdhhgeilaa.Pad
open Go

def hasL (l : List Signal) (t : Nat) (k : Int) (i : Nat) : Bool := l.any fun s => decide (s.At = (t : Int) ∧ s.Kind = k ∧ s.Number = (i : Int))
def stp (t : Nat) (st : Bool × List Int) (s : Signal) : Bool × List Int :=
  if s.At = (t : Int) then (if s.Kind = 1 then (st.1, st.2.set s.Number.toNat s.Value) else if s.Kind = 4 then (false, st.2) else if s.Kind = 5 then (true, st.2) else st) else st
def env (l : List Signal) (S : Nat) : Nat → Bool × List Int
  | 0 => (true, List.replicate S 0)
  | t + 1 => l.foldl (stp t) (env l S t)
def pw (p : Panel) (l : List Signal) (t : Nat) : Bool := (env l p.Sensors.toNat (t + 1)).1
def sen (p : Panel) (l : List Signal) (t i : Nat) : Int := (env l p.Sensors.toNat (t + 1)).2.getD i 0
def live (p : Panel) (l : List Signal) (t i : Nat) : Bool := pw p l t && !hasL l t 2 i
/-- What is known of a sensor before a tick. -/
def kv (p : Panel) (l : List Signal) : Nat → Nat → Int
  | 0, _ => 0
  | t + 1, i => if live p l t i then sen p l t i else kv p l t i
/-- How old it is. -/
def ka (p : Panel) (l : List Signal) : Nat → Nat → Int
  | 0, _ => 0
  | t + 1, i => if live p l t i then 0 else ka p l t i + 1
theorem ka_le (p : Panel) (l : List Signal) : ∀ t i, 0 ≤ ka p l t i ∧ ka p l t i ≤ t
  | 0, i => ⟨Int.le_refl _, Int.le_refl _⟩
  | t + 1, i => by
    have := ka_le p l t i
    unfold ka
    split <;> omega
def staleB (p : Panel) (l : List Signal) (t : Nat) (g : Gate) : Bool := g.When.any fun s => decide (p.Stale ≤ ka p l (t + 1) s.Sensor.toNat)
def failsB (p : Panel) (l : List Signal) (t : Nat) (g : Gate) : Bool := g.When.any fun s => (kv p l (t + 1) s.Sensor.toNat == s.Value) == s.Not
def dec (p : Panel) (l : List Signal) (t : Nat) (g : Gate) : Int := if p.Limit ≤ (t : Int) then 2 else if staleB p l t g then 2 else if failsB p l t g then 1 else 2
def says (p : Panel) (l : List Signal) (t : Nat) (g : Gate) : Int := if pw p l t then dec p l t g else 0
def hears (p : Panel) (l : List Signal) (t d : Nat) (g : Gate) : Int := if hasL l t 3 d then 0 else says p l t g

structure TickIs (p : Panel) (l : List Signal) (t : Nat) (x : Control_tick) : Prop extends GoodTick p x where
  power : x.power = pw p l t
  vok : ∀ i, i < p.Sensors.toNat → x.values[i]? = some (kv p l (t + 1) i)
  aok : ∀ i, i < p.Sensors.toNat → x.ages[i]? = some (ka p l (t + 1) i)
  said : ∀ (d : Nat) g, p.Doors[d]? = some g → x.said[d]? = some (says p l t g)
  heard : ∀ (d : Nat) g, p.Doors[d]? = some g → x.heard[d]? = some (hears p l t d g)
  stood : ∀ (d : Nat), d < p.Doors.length → x.stood[d]? = some (hasL l t 6 d)
def Played (p : Panel) (l : List Signal) (n : Nat) (out : List Control_tick) : Prop :=
  out.length = n ∧ ∀ (t : Nat) x, out[t]? = some x → TickIs p l t x

theorem F50_eq {l : List Sense} {b : Sense → Option Bool} {c : Sense → Bool} (h : ∀ x ∈ l, b x = some (c x)) : F50 l b = some (l.any c) := by
  suffices hh : Tot (F50 l b) (fun r => r = l.any c) by
    obtain ⟨r, h1, rfl⟩ := hh; exact h1
  unfold F50 F68
  refine Tot.bind (fun n => decide (0 ≤ n) = l.any c) ?_ (fun n hn => .pure hn)
  refine Tot.bind _ (Tot.forN (fun i _ => ∀ j, j < i → ∀ x, l[j]? = some x → c x = false) (fun r => 0 ≤ r ∧ l.any c = true) (fun j hj => by omega) ?_) ?_
  · intro j _ hj hI
    refine Tot.bind _ (Tot.atN hj) fun x hx => ?_
    have hm := List.mem_of_getElem? hx
    refine Tot.eq (h x hm) (Tot.ite (fun hc => .pure ⟨by omega, List.any_eq_true.2 ⟨x, hm, hc⟩⟩) fun hc => .pure ?_)
    intro q hq y hy
    rcases Nat.lt_succ_iff_lt_or_eq.1 hq with h | rfl
    · exact hI q h y hy
    · rw [hx] at hy; cases hy; simpa using hc
  · intro o ho
    refine Tot.onL ho (fun _ hI => .pure ?_) (fun r hr => by rw [hr.2]; exact decide_eq_true hr.1)
    show false = _
    symm
    rw [List.any_eq_false]
    intro x hx
    obtain ⟨q, hq, e⟩ := List.getElem_of_mem hx
    rw [hI q hq x (by rw [List.getElem?_eq_getElem hq, e])]; decide

theorem F66_eq {p : Panel} (hp : GoodPanel p) {l : List Signal} {t : Nat} {x : Control_tick} (hv : ∀ i, i < p.Sensors.toNat → x.values[i]? = some (kv p l (t + 1) i))
    (ha : ∀ i, i < p.Sensors.toNat → x.ages[i]? = some (ka p l (t + 1) i)) {g : Gate} (hg : GoodGate p g) : F66 x p (t : Int) g = some (dec p l t g) := by
  unfold F66
  rw [F50_eq (c := fun s => decide (p.Stale ≤ ka p l (t + 1) s.Sensor.toNat)), F50_eq (c := fun s => (kv p l (t + 1) s.Sensor.toNat == s.Value) == s.Not)]
  · simp only [Option.bind_some]
    unfold dec staleB failsB
    by_cases h : p.Limit ≤ (t : Int)
    · simp [h]
    · rw [if_neg (by simpa using h), if_neg h]
      split
      · rfl
      · by_cases hf : (g.When.any fun s => (kv p l (t + 1) s.Sensor.toNat == s.Value) == s.Not) = true
        · rw [hf]; rfl
        · simp only [Bool.not_eq_true] at hf
          rw [hf]; rfl
  · intro s hs
    have := hg.s s hs
    unfold F77
    rw [at?_of this.1 (hv s.Sensor.toNat (by omega))]
    rfl
  · intro s hs
    have := hg.s s hs
    unfold F76
    rw [at?_of this.1 (ha s.Sensor.toNat (by omega))]
    rfl

theorem take_next {l : List Signal} {j : Nat} {y : Signal} (h : l[j]? = some y) : l.take (j + 1) = l.take j ++ [y] := by
  rw [List.take_add_one, h]; rfl
theorem has_skip {l : List Signal} {j : Nat} {y : Signal} (h : l[j]? = some y) {t : Nat} {k : Int} (hk : ¬(y.At = (t : Int) ∧ y.Kind = k)) (i : Nat) : hasL (l.take (j + 1)) t k i = hasL (l.take j) t k i := by
  unfold hasL
  rw [take_next h, List.any_append]
  have : ¬(y.At = (t : Int) ∧ y.Kind = k ∧ y.Number = (i : Int)) := fun h => hk ⟨h.1, h.2.1⟩
  simp [this]
theorem has_set {l : List Signal} {j : Nat} {y : Signal} (h : l[j]? = some y) {t : Nat} {k : Int} (hA : y.At = (t : Int)) (hK : y.Kind = k) (h0 : 0 ≤ y.Number) {m : List Bool} {n : Nat} (hl : m.length = n)
    (hm : ∀ i, i < n → m[i]? = some (hasL (l.take j) t k i)) : ∀ i, i < n → (m.set y.Number.toNat true)[i]? = some (hasL (l.take (j + 1)) t k i) := by
  intro i hi
  have e : hasL (l.take (j + 1)) t k i = (hasL (l.take j) t k i || decide (y.Number = (i : Int))) := by
    unfold hasL
    rw [take_next h, List.any_append]
    simp [hA, hK]
  rw [e, List.getElem?_set]
  by_cases hn : y.Number.toNat = i
  · have : y.Number = (i : Int) := by omega
    rw [if_pos hn, if_pos (by omega)]; simp [this]
  · have : ¬ y.Number = (i : Int) := by omega
    rw [if_neg hn, hm i hi]; simp [this]
theorem fold_next {l : List Signal} {j : Nat} {y : Signal} (h : l[j]? = some y) {t : Nat} {s : Bool × List Int} : (l.take (j + 1)).foldl (stp t) s = stp t ((l.take j).foldl (stp t) s) y := by
  rw [take_next h, List.foldl_append]; rfl

/-- A signal is valid. -/
def SigOk (p : Panel) (ticks : Int) (s : Signal) : Prop :=
  (0 ≤ s.At ∧ s.At ≤ ticks - 1) ∧ ((s.Kind = 1 ∧ (0 ≤ s.Number ∧ s.Number ≤ p.Sensors - 1) ∧ (0 ≤ s.Value ∧ s.Value ≤ 9)) ∨ (s.Kind = 2 ∧ (0 ≤ s.Number ∧ s.Number ≤ p.Sensors - 1) ∧ s.Value = 0) ∨
    ((s.Kind = 3 ∨ s.Kind = 6) ∧ (0 ≤ s.Number ∧ s.Number ≤ (p.Doors.length : Int) - 1) ∧ s.Value = 0) ∨ ((s.Kind = 4 ∨ s.Kind = 5) ∧ s.Number = 0 ∧ s.Value = 0))
instance (p : Panel) (ticks : Int) (s : Signal) : Decidable (SigOk p ticks s) := by unfold SigOk; infer_instance
def Legal (p : Panel) (ticks : Int) (l : List Signal) : Prop := l.length ≤ 200 ∧ ∀ x ∈ l, SigOk p ticks x
theorem SigOk.good {p : Panel} {ticks : Int} {s : Signal} (h : SigOk p ticks s) : GoodSig p ticks s := by
  obtain ⟨a, b⟩ := h
  refine ⟨a.1, by omega, fun h => ?_, fun h => ?_, fun h => ?_, fun h => ?_⟩ <;> omega
theorem F64_eq {p : Panel} (hp : GoodPanel p) {ticks : Int} (h0 : 0 ≤ ticks) (h1 : ticks ≤ 1000) (s : Signal) : F64 p ticks s = some (decide (SigOk p ticks s)) := by
  have a := hp.s0; have b := hp.s1; have c := hp.d
  have w1 : w64 (ticks - 1) = ticks - 1 := w64_eq (by omega) (by omega)
  have w2 : w64 (p.Sensors - 1) = p.Sensors - 1 := w64_eq (by omega) (by omega)
  have w3 : w64 ((p.Doors.length : Int) - 1) = (p.Doors.length : Int) - 1 := w64_eq (by omega) (by omega)
  unfold F64 SigOk
  simp only [F48_eq, w1, w2, w3, Option.bind_some]
  by_cases hA : 0 ≤ s.At ∧ s.At ≤ ticks - 1
  case neg => simp [hA]
  by_cases k1 : s.Kind = 1
  · simp [hA, k1]
    by_cases h : 0 ≤ s.Number ∧ s.Number ≤ p.Sensors - 1 <;> simp [h]
  by_cases k2 : s.Kind = 2
  · simp [hA, k2]
    by_cases h : 0 ≤ s.Number ∧ s.Number ≤ p.Sensors - 1 <;> simp [h] <;> rfl
  by_cases k3 : s.Kind = 3
  · simp [hA, k3]
    by_cases h : 0 ≤ s.Number ∧ s.Number ≤ (p.Doors.length : Int) - 1 <;> simp [h] <;> rfl
  by_cases k6 : s.Kind = 6
  · simp [hA, k6]
    by_cases h : 0 ≤ s.Number ∧ s.Number ≤ (p.Doors.length : Int) - 1 <;> simp [h] <;> rfl
  by_cases k4 : s.Kind = 4
  · simp [hA, k4]
    by_cases h : s.Number = 0 <;> simp [h] <;> rfl
  by_cases k5 : s.Kind = 5
  · simp [hA, k5]
    by_cases h : s.Number = 0 <;> simp [h] <;> rfl
  simp [hA, k1, k2, k3, k4, k5, k6]
theorem F62_eq {l : List Signal} {b : Signal → Option Bool} {c : Signal → Bool} (h : ∀ x ∈ l, b x = some (c x)) : F62 l b = some (l.any c) := by
  suffices hh : Tot (F62 l b) (fun r => r = l.any c) by
    obtain ⟨r, h1, rfl⟩ := hh; exact h1
  unfold F62 F75
  refine Tot.bind (fun n => decide (0 ≤ n) = l.any c) ?_ (fun n hn => .pure hn)
  refine Tot.bind _ (Tot.forN (fun i _ => ∀ j, j < i → ∀ x, l[j]? = some x → c x = false) (fun r => 0 ≤ r ∧ l.any c = true) (fun j hj => by omega) ?_) ?_
  · intro j _ hj hI
    refine Tot.bind _ (Tot.atN hj) fun x hx => ?_
    have hm := List.mem_of_getElem? hx
    refine Tot.eq (h x hm) (Tot.ite (fun hc => .pure ⟨by omega, List.any_eq_true.2 ⟨x, hm, hc⟩⟩) fun hc => .pure ?_)
    intro q hq y hy
    rcases Nat.lt_succ_iff_lt_or_eq.1 hq with h | rfl
    · exact hI q h y hy
    · rw [hx] at hy; cases hy; simpa using hc
  · intro o ho
    refine Tot.onL ho (fun _ hI => .pure ?_) (fun r hr => by rw [hr.2]; exact decide_eq_true hr.1)
    show false = _
    symm
    rw [List.any_eq_false]
    intro x hx
    obtain ⟨q, hq, e⟩ := List.getElem_of_mem hx
    rw [hI q hq x (by rw [List.getElem?_eq_getElem hq, e])]; decide

theorem F45_spec {p : Panel} (hp : GoodPanel p) {ticks : Int} (h0 : 0 ≤ ticks) (h1 : ticks ≤ 1000) (l : List Signal) :
    Tot (F45 p ticks l) (fun r => (Legal p ticks l ∧ r.2 = 0 ∧ Played p l ticks.toNat r.1) ∨ (¬Legal p ticks l ∧ r.2 = 81)) := by
  have a := hp.s0; have b := hp.s1; have c := hp.d
  unfold F45
  rw [F27_good hp]
  simp only [Option.bind_some]
  rw [if_neg (by simp)]
  simp only [F48_eq, Option.bind_some]
  rw [if_neg (by simp [h0, h1])]
  refine Tot.bind (Sum.elim (fun _ => Legal p ticks l) (fun r => ¬Legal p ticks l ∧ r.2 = 81)) ?_ ?_
  · refine Tot.ite (fun h => .pure ⟨fun hl => by have := hl.1; simp at h; omega, rfl⟩) fun h => ?_
    refine Tot.eq (F62_eq (c := fun x => !decide (SigOk p ticks x)) fun x hx => ?_) ?_
    · unfold F63
      rw [F64_eq hp h0 h1]; rfl
    · refine Tot.ite (fun h' => .pure ⟨fun hl => ?_, rfl⟩) fun h' => .pure ⟨by simp at h; omega, fun x hx => ?_⟩
      · obtain ⟨x, hx, hn⟩ := List.any_eq_true.1 h'
        simp [hl.2 x hx] at hn
      · simp only [List.any_eq_true, not_exists, not_and] at h'
        simpa using h' x hx
  intro o ho
  refine Tot.onL ho ?_ (fun r hr => .inr hr)
  intro _ hLegal
  have hS : ∀ x ∈ l, GoodSig p ticks x := fun x hx => (hLegal.2 x hx).good
  refine Tot.eq (mk?_le a (by omega)) ?_
  refine Tot.eq (cnt?_le (by omega)) ?_
  have D8 : (0 : Int) ≤ (p.Doors.length : Int) ∧ (p.Doors.length : Int) ≤ 2147483648 := by omega
  refine Tot.bind _ (Tot.forS (fun i s => Played p l i s.1 ∧ (s.2.1, s.2.2.1) = env l p.Sensors.toNat i ∧ (s.2.2.1.length : Int) = p.Sensors ∧ (s.2.2.2.1.length : Int) = p.Sensors ∧ (s.2.2.2.2.length : Int) = p.Sensors ∧
      (∀ q, q < p.Sensors.toNat → s.2.2.2.1[q]? = some (kv p l i q)) ∧ (∀ q, q < p.Sensors.toNat → s.2.2.2.2[q]? = some (ka p l i q))) ?_ ?_) ?_
  · refine ⟨⟨rfl, fun t x h => by simp at h⟩, rfl, ?_, ?_, ?_, fun q hq => ?_, fun q hq => ?_⟩
    · simp; omega
    · simp; omega
    · simp; omega
    · simp [List.getElem?_replicate, hq, kv]
    · simp [List.getElem?_replicate, hq, ka]
  · rintro t ⟨out, pw0, se, va, ag⟩ ht ⟨hB, henv, hs1, hs2, hs3, hv, ha⟩
    simp only at hB henv hs1 hs2 hs3 hv ha ⊢
    refine Tot.eq (mk?_le a (by omega)) ?_
    refine Tot.eq (mk?_le D8.1 D8.2) ?_
    refine Tot.eq (mk?_le D8.1 D8.2) ?_
    refine Tot.eq (mk?_le D8.1 D8.2) ?_
    refine Tot.bind _ (Tot.forS (fun j s => (s.2.1.length : Int) = p.Sensors ∧ (s.2.2.1.length : Int) = p.Sensors ∧ s.2.2.2.1.length = p.Doors.length ∧ s.2.2.2.2.length = p.Doors.length ∧
        (s.1, s.2.1) = (l.take j).foldl (stp t) (env l p.Sensors.toNat t) ∧ (∀ q, q < p.Sensors.toNat → s.2.2.1[q]? = some (hasL (l.take j) t 2 q)) ∧
        (∀ q, q < p.Doors.length → s.2.2.2.1[q]? = some (hasL (l.take j) t 6 q)) ∧ (∀ q, q < p.Doors.length → s.2.2.2.2[q]? = some (hasL (l.take j) t 3 q))) ?_ ?_) ?_
    · refine ⟨hs1, ?_, ?_, ?_, henv, fun q hq => ?_, fun q hq => ?_, fun q hq => ?_⟩
      · simp; omega
      · simp
      · simp
      · simp [List.getElem?_replicate, hq, hasL]
      · simp [List.getElem?_replicate, hq, hasL]
      · simp [List.getElem?_replicate, hq, hasL]
    · rintro j ⟨pw', se', mu, st, mi⟩ hj ⟨e1, e2, e3, e4, e5, e6, e7, e8⟩
      simp only at e1 e2 e3 e4 e5 e6 e7 e8 ⊢
      refine Tot.bind _ (Tot.atN hj) fun y hy => ?_
      have G := hS y (List.mem_of_getElem? hy)
      have k2 : ∀ {k : Int}, ¬(y.At = (t : Int) ∧ y.Kind = k) → ∀ {m : List Bool} {n : Nat}, (∀ q, q < n → m[q]? = some (hasL (l.take j) t k q)) → ∀ q, q < n → m[q]? = some (hasL (l.take (j + 1)) t k q) := by
        intro k hk m n hm q hq
        rw [has_skip hy hk]; exact hm q hq
      refine Tot.ite (fun h => ?_) fun hAt => ?_
      · have hA : y.At ≠ (t : Int) := by simpa using h
        refine .pure ⟨e1, e2, e3, e4, ?_, k2 (fun h => hA h.1) e6, k2 (fun h => hA h.1) e7, k2 (fun h => hA h.1) e8⟩
        rw [fold_next hy, ← e5]; simp [stp, hA]
      have hA : y.At = (t : Int) := by simpa using hAt
      have fin : ∀ {z : Bool × List Int}, z = stp t (pw', se') y → z = (l.take (j + 1)).foldl (stp t) (env l p.Sensors.toNat t) := by
        intro z hz; rw [fold_next hy, ← e5]; exact hz
      refine Tot.ite (fun h => ?_) fun k1' => Tot.ite (fun h => ?_) fun k2' => Tot.ite (fun h => ?_) fun k3' => Tot.ite (fun h => ?_) fun k4' => Tot.ite (fun h => ?_) fun k5' => Tot.ite (fun h => ?_) fun k6' => ?_
      · have hk : y.Kind = 1 := by simpa using h
        have := G.k1 hk
        refine Tot.bind _ (Tot.at_ (by omega) (by omega)) fun _ _ => .pure ⟨by simpa using e1, e2, e3, e4, fin (by simp [stp, hA, hk]), k2 (fun h => by omega) e6, k2 (fun h => by omega) e7, k2 (fun h => by omega) e8⟩
      · have hk : y.Kind = 2 := by simpa using h
        have := G.k2 hk
        refine Tot.bind _ (Tot.at_ (by omega) (by omega)) fun _ _ => .pure ⟨e1, by simpa using e2, e3, e4, fin (by simp [stp, hA, hk]), has_set hy hA hk (by omega) (by omega) e6, k2 (fun h => by omega) e7, k2 (fun h => by omega) e8⟩
      · have hk : y.Kind = 3 := by simpa using h
        have := G.k3 hk
        refine Tot.bind _ (Tot.at_ (by omega) (by omega)) fun _ _ => .pure ⟨e1, e2, e3, by simpa using e4, fin (by simp [stp, hA, hk]), k2 (fun h => by omega) e6, k2 (fun h => by omega) e7, has_set hy hA hk (by omega) (by omega) e8⟩
      · have hk : y.Kind = 4 := by simpa using h
        exact .pure ⟨e1, e2, e3, e4, fin (by simp [stp, hA, hk]), k2 (fun h => by omega) e6, k2 (fun h => by omega) e7, k2 (fun h => by omega) e8⟩
      · have hk : y.Kind = 5 := by simpa using h
        exact .pure ⟨e1, e2, e3, e4, fin (by simp [stp, hA, hk]), k2 (fun h => by omega) e6, k2 (fun h => by omega) e7, k2 (fun h => by omega) e8⟩
      · have hk : y.Kind = 6 := by simpa using h
        have := G.k6 hk
        refine Tot.bind _ (Tot.at_ (by omega) (by omega)) fun _ _ => .pure ⟨e1, e2, by simpa using e3, e4, fin (by simp [stp, hA, hk]), k2 (fun h => by omega) e6, has_set hy hA hk (by omega) (by omega) e7, k2 (fun h => by omega) e8⟩
      · have n1 : y.Kind ≠ 1 := by simpa using k1'
        have n2 : y.Kind ≠ 2 := by simpa using k2'
        have n3 : y.Kind ≠ 3 := by simpa using k3'
        have n4 : y.Kind ≠ 4 := by simpa using k4'
        have n5 : y.Kind ≠ 5 := by simpa using k5'
        have n6 : y.Kind ≠ 6 := by simpa using k6'
        exact .pure ⟨e1, e2, e3, e4, fin (by simp [stp, hA, n1, n4, n5]), k2 (fun h => n2 h.2) e6, k2 (fun h => n6 h.2) e7, k2 (fun h => n3 h.2) e8⟩
    rintro ⟨pw', se', mu, st, mi⟩ ⟨e1, e2, e3, e4, e5, e6, e7, e8⟩
    simp only [List.take_length] at e1 e2 e3 e4 e5 e6 e7 e8 ⊢
    have e5 : (pw', se') = env l p.Sensors.toNat (t + 1) := e5
    have hpw : pw' = pw p l t := by unfold pw; rw [← e5]
    have hse : ∀ q, q < p.Sensors.toNat → se'[q]? = some (sen p l t q) := by
      intro q hq
      unfold sen
      rw [← e5]
      simp [List.getElem?_eq_getElem (show q < se'.length by omega)]
    have slen : se'.length = p.Sensors.toNat := by omega
    rw [slen]
    refine Tot.bind _ (Tot.forS (fun j s => (s.1.length : Int) = p.Sensors ∧ (s.2.length : Int) = p.Sensors ∧
      (∀ q, q < p.Sensors.toNat → s.1[q]? = some (if q < j then kv p l (t + 1) q else kv p l t q)) ∧ (∀ q, q < p.Sensors.toNat → s.2[q]? = some (if q < j then ka p l (t + 1) q else ka p l t q))) ⟨hs2, hs3, by simpa using hv, by simpa using ha⟩ ?_) ?_
    · rintro j ⟨va', ag'⟩ hj ⟨f1, f2, f3, f4⟩
      simp only at f1 f2 f3 f4 ⊢
      have ej : ((j : Int)).toNat = j := by omega
      have aj := f4 j hj
      rw [if_neg (Nat.lt_irrefl j)] at aj
      have vj := f3 j hj
      rw [if_neg (Nat.lt_irrefl j)] at vj
      rw [at?_nat, aj]
      simp only [Option.bind_some]
      have kb := ka_le p l t j
      rw [w64_eq (by omega) (by omega), ej]
      refine Tot.bind (fun v => v = live p l t j) ?_ ?_
      · refine Tot.ite (fun h => ?_) fun h => .pure ?_
        · rw [at?_nat, e6 j hj]
          refine .pure ?_
          unfold live; rw [← hpw, h]; rfl
        · unfold live; rw [← hpw]; simp at h; rw [h]; rfl
      rintro _ rfl
      have stepv : ∀ {w : List Int} {z : Int} {f : Nat → Nat → Int}, (w.length : Int) = p.Sensors → (∀ q, q < p.Sensors.toNat → w[q]? = some (if q < j then f (t + 1) q else f t q)) → z = f (t + 1) j →
          ∀ q, q < p.Sensors.toNat → (w.set j z)[q]? = some (if q < j + 1 then f (t + 1) q else f t q) := by
        intro w z f hw hf hz q hq
        rw [List.getElem?_set]
        by_cases hqj : j = q
        · subst hqj; rw [if_pos rfl, if_pos (by omega), if_pos (by omega), hz]
        · rw [if_neg hqj, hf q hq]
          congr 1
          by_cases hlt : q < j
          · rw [if_pos hlt, if_pos (by omega)]
          · rw [if_neg hlt, if_neg (by omega)]
      refine Tot.ite (fun h => ?_) fun h => ?_
      · rw [at?_nat, hse j hj]
        simp only [Option.bind_some]
        rw [at?_nat, vj]
        simp only [Option.bind_some]
        refine Tot.bind _ (Tot.at_ (by omega) (by simp; omega)) fun _ _ => .pure ?_
        refine ⟨by simpa using f1, by simpa using f2, stepv (f := kv p l) f1 f3 (by simp [kv, h]), ?_⟩
        rw [List.set_set]
        exact stepv (f := ka p l) f2 f4 (by simp [ka, h])
      · refine .pure ⟨f1, by simpa using f2, fun q hq => ?_, stepv (f := ka p l) f2 f4 (by simp [ka, h])⟩
        rw [f3 q hq]
        congr 1
        by_cases hlt : q < j
        · rw [if_pos hlt, if_pos (by omega)]
        · by_cases hqj : q = j
          · subst hqj; rw [if_neg hlt, if_pos (by omega)]; simp [kv, h]
          · rw [if_neg hlt, if_neg (by omega)]
    rintro ⟨va', ag'⟩ ⟨f1, f2, f3, f4⟩
    simp only at f1 f2 f3 f4 ⊢
    have f3 : ∀ q, q < p.Sensors.toNat → va'[q]? = some (kv p l (t + 1) q) := fun q hq => by have := f3 q hq; rwa [if_pos hq] at this
    have f4 : ∀ q, q < p.Sensors.toNat → ag'[q]? = some (ka p l (t + 1) q) := fun q hq => by have := f4 q hq; rwa [if_pos hq] at this
    unfold F65
    refine Tot.eq (push?_le (by simp; omega)) ?_
    refine Tot.eq (push?_le (by simp; omega)) ?_
    simp only [List.nil_append]
    refine Tot.bind _ (Tot.forS (fun j s => s.1.length = p.Doors.length ∧ s.2.length = p.Doors.length ∧ (∀ (d : Nat) g, p.Doors[d]? = some g → s.1[d]? = some (if d < j then says p l t g else 0)) ∧
      (∀ (d : Nat) g, p.Doors[d]? = some g → s.2[d]? = some (if d < j then hears p l t d g else 0))) ?_ ?_) ?_
    · refine ⟨by simp, by simp, fun d g hd => ?_, fun d g hd => ?_⟩
      · have := (List.getElem?_eq_some_iff.1 hd).1
        simp [List.getElem?_replicate, this]
      · have := (List.getElem?_eq_some_iff.1 hd).1
        simp [List.getElem?_replicate, this]
    · rintro j ⟨sa, he⟩ hj ⟨g1, g2, g3, g4⟩
      simp only at g1 g2 g3 g4 ⊢
      have ej : ((j : Int)).toNat = j := by omega
      refine Tot.bind _ (Tot.atN hj) fun g hg => ?_
      have sj := g3 j g hg
      have hj' := g4 j g hg
      rw [if_neg (Nat.lt_irrefl j)] at sj hj'
      have put : ∀ {w : List Int} {z : Int} {f : Nat → Gate → Int}, w.length = p.Doors.length → (∀ (d : Nat) g, p.Doors[d]? = some g → w[d]? = some (if d < j then f d g else 0)) → z = f j g →
          ∀ (d : Nat) g, p.Doors[d]? = some g → (w.set j z)[d]? = some (if d < j + 1 then f d g else 0) := by
        intro w z f hw hf hz d g' hd
        rw [List.getElem?_set]
        by_cases hdj : j = d
        · subst hdj
          rw [hg] at hd; cases hd
          rw [if_pos rfl, if_pos (by omega), if_pos (by omega), hz]
        · rw [if_neg hdj, hf d g' hd]
          congr 1
          by_cases hlt : d < j
          · rw [if_pos hlt, if_pos (by omega)]
          · rw [if_neg hlt, if_neg (by omega)]
      have keep : ∀ {w : List Int} {f : Nat → Gate → Int}, (∀ (d : Nat) g, p.Doors[d]? = some g → w[d]? = some (if d < j then f d g else 0)) → f j g = 0 →
          ∀ (d : Nat) g, p.Doors[d]? = some g → w[d]? = some (if d < j + 1 then f d g else 0) := by
        intro w f hf hz d g' hd
        rw [hf d g' hd]
        congr 1
        by_cases hlt : d < j
        · rw [if_pos hlt, if_pos (by omega)]
        · by_cases hdj : d = j
          · subst hdj
            rw [hg] at hd; cases hd
            rw [if_neg hlt, if_pos (by omega), hz]
          · rw [if_neg hlt, if_neg (by omega)]
      rw [ej]
      refine Tot.bind (fun v => v.length = p.Doors.length ∧ ∀ (d : Nat) g, p.Doors[d]? = some g → v[d]? = some (if d < j + 1 then says p l t g else 0)) ?_ ?_
      · refine Tot.ite (fun h => ?_) fun h => .pure ⟨g1, ?_⟩
        · rw [F66_eq hp (l := l) (t := t) (x := ⟨pw', va', ag', sa, he, st⟩) f3 f4 (hp.g g (List.mem_of_getElem? hg))]
          simp only [Option.bind_some]
          rw [at?_nat, sj]
          refine .pure ⟨by simpa using g1, put (f := fun _ g => says p l t g) g1 g3 ?_⟩
          unfold says; rw [← hpw, h]; rfl
        · refine keep (f := fun _ g => says p l t g) g3 ?_
          show says p l t g = 0
          unfold says; rw [← hpw]; simp at h; rw [h]; rfl
      rintro v ⟨v1, v2⟩
      rw [at?_nat, e8 j hj]
      simp only [Option.bind_some]
      refine Tot.ite (fun h => ?_) fun h => .pure ⟨v1, g2, v2, keep (f := fun d g => hears p l t d g) g4 ?_⟩
      · have hv := v2 j g hg
        rw [if_pos (by omega)] at hv
        rw [at?_nat, hv]
        simp only [Option.bind_some]
        rw [at?_nat, hj']
        refine .pure ⟨v1, by simpa using g2, v2, put (f := fun d g => hears p l t d g) g2 g4 ?_⟩
        show _ = hears p l t j g
        unfold hears; simp at h; rw [h]; rfl
      · unfold hears; simp at h; rw [h]; rfl
    rintro ⟨sa, he⟩ ⟨g1, g2, g3, g4⟩
    simp only at g1 g2 g3 g4 ⊢
    have ol : out.length = t := hB.1
    refine Tot.eq (push?_le (by simp; omega)) ?_
    refine .pure ⟨⟨by simp [ol], fun t' x hx => ?_⟩, e5, e1, f1, f2, f3, f4⟩
    rcases Nat.lt_or_ge t' t with h | h
    · rw [List.getElem?_append_left (by omega)] at hx
      exact hB.2 t' x hx
    · rw [List.getElem?_append_right (by omega)] at hx
      have : t' = t := by
        rcases Nat.lt_or_ge (t' - out.length) 1 with h' | h'
        · omega
        · rw [List.getElem?_eq_none (by simpa using h')] at hx; cases hx
      subst this
      rw [ol, Nat.sub_self] at hx
      simp only [List.getElem?_cons_zero, Option.some.injEq] at hx
      subst hx
      exact ⟨⟨f1, f2, g2, g1, e3⟩, hpw, f3, f4, fun d g hd => by have := g3 d g hd; rwa [if_pos (List.getElem?_eq_some_iff.1 hd).1] at this,
        fun d g hd => by have := g4 d g hd; rwa [if_pos (List.getElem?_eq_some_iff.1 hd).1] at this, e7⟩
  · rintro ⟨out, rest⟩ ⟨hB, _⟩
    exact .pure (.inl ⟨hLegal, rfl, hB⟩)
end Go.Proofs.Ytfeomcdhhgeilaa.Pad
