/- The frames of the reference, by the same recursion. -/
import Derived.Test.YtfeomcdhhgeilaaLawRef
set_option linter.unusedVariables false
set_option linter.unusedSimpArgs false
namespace Go.Proofs.Ytfeomcdhhgeilaa.Pad
open Go

structure FrameIs (p : Panel) (l : List Signal) (t : Nat) (x : Ref08_Frame) : Prop where
  power : x.Power = pw p l t
  vl : (x.Values.length : Int) = p.Sensors
  al : (x.Ages.length : Int) = p.Sensors
  vok : ∀ i, i < p.Sensors.toNat → x.Values[i]? = some (kv p l (t + 1) i)
  aok : ∀ i, i < p.Sensors.toNat → x.Ages[i]? = some (ka p l (t + 1) i)
  tl : x.Told.length = p.Doors.length
  told : ∀ (d : Nat) g, p.Doors[d]? = some g → x.Told[d]? = some (says p l t g)
/-- A frame with its doors. -/
structure FullIs (p : Panel) (l : List Signal) (t : Nat) (x : Ref08_Frame) : Prop extends FrameIs p l t x where
  sl : x.Shut.length = p.Doors.length
  shut : ∀ (d : Nat) g, p.Doors[d]? = some g → x.Shut[d]? = some (sh p l d g (t + 1))
def FramesAre (p : Panel) (l : List Signal) (n : Nat) (out : List Ref08_Frame) : Prop := out.length = n ∧ ∀ (t : Nat) x, out[t]? = some x → FullIs p l t x

theorem F71_eq {p : Panel} (hp : GoodPanel p) {l : List Signal} {t : Nat} {x : Ref08_Frame} (hv : ∀ i, i < p.Sensors.toNat → x.Values[i]? = some (kv p l (t + 1) i))
    (ha : ∀ i, i < p.Sensors.toNat → x.Ages[i]? = some (ka p l (t + 1) i)) {d : Nat} {g : Gate} (hd : p.Doors[d]? = some g) : F71 p (t : Int) (d : Int) x = some (dec p l t g) := by
  suffices hh : Tot (F71 p (t : Int) (d : Int) x) (fun r => r = dec p l t g) by
    obtain ⟨r, e, rfl⟩ := hh; exact e
  have hg := hp.g g (List.mem_of_getElem? hd)
  unfold F71
  rw [at?_nat, hd]
  simp only [Option.bind_some]
  unfold dec
  refine Tot.ite (fun h => .pure ?_) fun h => ?_
  · rw [if_pos (by simpa using h)]
  rw [if_neg (by simpa using h)]
  refine Tot.bind _ (Tot.forN (fun j _ => ((g.When.take j).any fun s => decide (p.Stale ≤ ka p l (t + 1) s.Sensor.toNat)) = false) (fun r => r = 2 ∧ staleB p l t g = true) rfl ?_) ?_
  · intro j _ hj hI
    obtain ⟨y, hy⟩ : ∃ y, g.When[j]? = some y := ⟨_, List.getElem?_eq_getElem hj⟩
    have hm := List.mem_of_getElem? hy
    have H := hg.s y hm
    rw [at?_nat, hy]
    simp only [Option.bind_some]
    rw [at?_of H.1 (ha y.Sensor.toNat (by omega))]
    simp only [Option.bind_some]
    refine Tot.ite (fun h' => .pure ⟨rfl, List.any_eq_true.2 ⟨y, hm, h'⟩⟩) fun h' => .pure ?_
    rw [List.take_add_one, hy]
    show ((g.When.take j ++ [y]).any _) = false
    rw [List.any_append, hI]
    simp only [Bool.not_eq_true] at h'
    simp only [List.any_cons, List.any_nil, h']; rfl
  · intro o ho
    refine Tot.onL ho (fun _ hI => ?_) (fun r hr => by rw [if_pos hr.2]; exact hr.1)
    rw [List.take_length] at hI
    have hs : staleB p l t g = false := hI
    rw [if_neg (by rw [hs]; decide), F23_eq (f := fun i => kv p l (t + 1) i) (fun s hs => ⟨(hg.s s hs).1, hv _ (by have := hg.s s hs; omega)⟩)]
    simp only [Option.bind_some]
    have e : (g.When.any fun s => (kv p l (t + 1) s.Sensor.toNat == s.Value) == s.Not) = failsB p l t g := rfl
    rw [e]
    refine Tot.ite (fun h => .pure ?_) fun h => .pure ?_
    · rw [if_neg (by simpa using h)]
    · rw [if_pos (by simpa using h)]

theorem dec_two (p : Panel) (l : List Signal) (t : Nat) (g : Gate) : dec p l t g = 1 ∨ dec p l t g = 2 := by
  unfold dec
  split
  · exact .inr rfl
  · split
    · exact .inr rfl
    · split
      · exact .inl rfl
      · exact .inr rfl

/-- Whether a door wants to hold. -/
theorem F72_eq {p : Panel} (hp : GoodPanel p) {l : List Signal} {t : Nat} (ht : t ≤ 1000) {fr : List Ref08_Frame} (hl : fr.length = t + 1) (hf : ∀ (u : Nat) x, fr[u]? = some x → FrameIs p l u x)
    {d : Nat} {g : Gate} (hd : p.Doors[d]? = some g) : F72 p l (d : Int) fr = some (decide (0 < lf p l d g (t + 1))) := by
  suffices hh : Tot (F72 p l (d : Int) fr) (fun r => r = decide (0 < lf p l d g (t + 1))) by
    obtain ⟨r, e, rfl⟩ := hh; exact e
  have hg := hp.g g (List.mem_of_getElem? hd)
  have w0 := hg.w0; have w1 := hg.w1
  have B := fun u => lf_le (p := p) (l := l) (d := d) (g := g) (by omega) u
  unfold F72
  have ew : w64 ((fr.length : Int) - 1) = (t : Int) := by rw [w64_eq (by omega) (by omega)]; omega
  rw [ew]
  refine Tot.bind (Sum.elim (fun _ => ¬ 0 < lf p l d g (t + 1)) (fun b => b = decide (0 < lf p l d g (t + 1)))) ?_ ?_
  case refine_2 =>
    intro o ho
    exact Tot.onL ho (fun _ h => .pure (by rw [decide_eq_false h])) (fun r h => h)
  refine whileO_inv (fun j (s : Int) => s = (t : Int) - j ∧ j ≤ t + 1 ∧ lf p l d g (t + 1) = max 0 (lf p l d g (t + 1 - j) - j)) _ (t + 1) 0 _ ⟨by simp, by omega, ?_⟩ ?_ ?_
  · have := B (t + 1); simp; omega
  · rintro j s _ hj ⟨rfl, h1, h2⟩
    have hj' : j ≤ t := by omega
    have e0 : decide (0 ≤ (t : Int) - j) = true := decide_eq_true (by omega)
    obtain ⟨x, hx⟩ : ∃ x, fr[t - j]? = some x := ⟨_, List.getElem?_eq_getElem (by omega)⟩
    have X := hf _ x hx
    have ex : at? fr ((t : Int) - j) = some x := at?_of (by omega) (by rw [show ((t : Int) - j).toNat = t - j by omega]; exact hx)
    have ei : ((t : Int) - j) = ((t - j : Nat) : Int) := by omega
    rw [if_pos e0, at?_nat, hd]
    simp only [Option.bind_some]
    rw [w64_eq (n := (t : Int) - g.Wait) (by omega) (by omega)]
    by_cases hw : (t : Int) - g.Wait < (t : Int) - j
    case neg =>
      refine .inr ⟨.inl ((t : Int) - j), ?_, ?_⟩
      · rw [if_neg (by simpa using hw)]; rfl
      · have := B (t + 1 - j)
        show ¬ 0 < lf p l d g (t + 1); omega
    rw [if_pos (by simpa using hw)]
    simp only [Option.bind_some, onL]
    rw [ex]
    simp only [Option.bind_some]
    have step : lf p l d g (t + 1 - j) = nextL g.Wait (pw p l (t - j)) (hears p l (t - j) d g) (lf p l d g (t - j)) := by
      rw [show t + 1 - j = (t - j) + 1 by omega]; rfl
    rw [X.power]
    cases hpw : pw p l (t - j) with
    | false =>
      refine .inr ⟨.inr false, by simp, ?_⟩
      rw [hpw] at step
      have : lf p l d g (t + 1 - j) = 0 := by rw [step]; unfold nextL; rw [if_pos (.inl rfl)]
      show false = _
      rw [decide_eq_false (by omega)]
    | true =>
      rw [hpw] at step
      simp only [Bool.not_true, Bool.false_eq_true, if_false]
      rw [ei, F70_eq]
      simp only [Option.bind_some]
      have nx : w64 (((t - j : Nat) : Int) - 1) = (t : Int) - ((j + 1 : Nat) : Int) := by rw [w64_eq (by omega) (by omega)]; omega
      cases hm : hasL l (t - j) 3 d with
      | true =>
        have hh : hears p l (t - j) d g = 0 := by unfold hears; rw [hm]; rfl
        rw [hh] at step
        unfold nextL at step
        rw [if_neg (by simp), if_neg (by decide)] at step
        refine .inl ⟨_, by rw [if_pos rfl], nx, by omega, ?_⟩
        rw [show t + 1 - (j + 1) = t - j by omega]
        omega
      | false =>
        have hh : hears p l (t - j) d g = dec p l (t - j) g := by unfold hears says; rw [hm, hpw]; rfl
        have told := X.told d g hd
        have hs : says p l (t - j) g = dec p l (t - j) g := by unfold says; rw [hpw]; rfl
        rw [hs] at told
        rw [if_neg (by simp), at?_nat, told]
        simp only [Option.bind_some]
        rw [hh] at step
        rcases dec_two p l (t - j) g with h | h
        · rw [h] at step ⊢
          unfold nextL at step
          rw [if_neg (by simp), if_pos rfl] at step
          refine .inr ⟨.inr true, by simp, ?_⟩
          show true = _
          rw [decide_eq_true (by omega)]
        · rw [h] at step ⊢
          unfold nextL at step
          rw [if_pos (.inr rfl)] at step
          refine .inr ⟨.inr false, by simp, ?_⟩
          show false = _
          rw [decide_eq_false (by omega)]
  · rintro s ⟨rfl, h1, h2⟩
    refine ⟨.inl ((t : Int) - ((0 + (t + 1) : Nat) : Int)), ?_, ?_⟩
    · rw [if_neg (by simp; omega)]; rfl
    · rw [show t + 1 - (0 + (t + 1)) = 0 by omega] at h2
      show ¬ 0 < lf p l d g (t + 1)
      have : lf p l d g 0 = 0 := rfl
      omega

/-- Two lists of an element put at a place. -/
theorem set_step {α : Type} {w : List α} {j n : Nat} {f g : Nat → α} (hw : w.length = n) (hf : ∀ q, q < n → w[q]? = some (if q < j then f q else g q)) {z : α} (hz : z = f j) (hj : j < n) :
    ∀ q, q < n → (w.set j z)[q]? = some (if q < j + 1 then f q else g q) := by
  intro q hq
  rw [List.getElem?_set]
  by_cases hqj : j = q
  · subst hqj; rw [if_pos rfl, if_pos (by omega), if_pos (by omega), hz]
  · rw [if_neg hqj, hf q hq]
    congr 1
    by_cases hlt : q < j
    · rw [if_pos hlt, if_pos (by omega)]
    · rw [if_neg hlt, if_neg (by omega)]

theorem F52_spec {p : Panel} (hp : GoodPanel p) {ticks : Int} (h0 : 0 ≤ ticks) (h1 : ticks ≤ 1000) {l : List Signal} (hL : ∀ x ∈ l, x.Kind = 1 → 0 ≤ x.Number ∧ x.Number < p.Sensors) :
    Tot (F52 p ticks l) (FramesAre p l ticks.toNat) := by
  have a := hp.s0; have b := hp.s1; have c := hp.d
  unfold F52
  refine Tot.eq (mk?_le a (by omega)) ?_
  refine Tot.eq (cnt?_le (by omega)) ?_
  have D8 : (0 : Int) ≤ (p.Doors.length : Int) ∧ (p.Doors.length : Int) ≤ 2147483648 := by omega
  refine Tot.bind _ (Tot.forS (fun t s => FramesAre p l t s.1 ∧ s.2.1.length = p.Sensors.toNat ∧ s.2.2.length = p.Sensors.toNat ∧
      (∀ q, q < p.Sensors.toNat → s.2.1[q]? = some (kv p l t q)) ∧ (∀ q, q < p.Sensors.toNat → s.2.2[q]? = some (ka p l t q))) ?_ ?_) ?_
  · refine ⟨⟨rfl, fun t x h => by simp at h⟩, by simp, by simp, fun q hq => ?_, fun q hq => ?_⟩
    · simp [List.getElem?_replicate, hq, kv]
    · simp [List.getElem?_replicate, hq, ka]
  · rintro t ⟨out, va, ag⟩ ht ⟨hB, hs2, hs3, hv, ha⟩
    simp only at hB hs2 hs3 hv ha ⊢
    have ht' : t ≤ 1000 := by omega
    have ol : out.length = t := hB.1
    rw [F33_eq l p.Sensors.toNat ht']
    simp only [Option.bind_some]
    have epw : (env l p.Sensors.toNat (t + 1)).1 = pw p l t := rfl
    rw [epw]
    refine Tot.eq (mk?_le D8.1 D8.2) ?_
    refine Tot.eq (mk?_le D8.1 D8.2) ?_
    rw [F24_eq a b hL ht']
    simp only [Option.bind_some]
    refine Tot.eq (cnt?_le (by omega)) ?_
    refine Tot.bind _ (Tot.forS (fun j s => s.1.length = p.Sensors.toNat ∧ s.2.length = p.Sensors.toNat ∧
      (∀ q, q < p.Sensors.toNat → s.1[q]? = some (if q < j then kv p l (t + 1) q else kv p l t q)) ∧ (∀ q, q < p.Sensors.toNat → s.2[q]? = some (if q < j then ka p l (t + 1) q else ka p l t q))) ⟨hs2, hs3, by simpa using hv, by simpa using ha⟩ ?_) ?_
    · rintro j ⟨va', ag'⟩ hj ⟨f1, f2, f3, f4⟩
      simp only at f1 f2 f3 f4 ⊢
      have ej : ((j : Int)).toNat = j := by omega
      have aj := f4 j hj
      rw [if_neg (Nat.lt_irrefl j)] at aj
      have vj := f3 j hj
      rw [if_neg (Nat.lt_irrefl j)] at vj
      have kb := ka_le p l t j
      rw [at?_nat, aj]
      simp only [Option.bind_some]
      rw [w64_eq (by omega) (by omega), ej, F70_eq]
      simp only [Option.bind_some]
      have lv : (if pw p l t = true then some (!hasL l t 2 j) else some false) = some (live p l t j) := by
        unfold live; cases pw p l t <;> rfl
      rw [lv]
      simp only [Option.bind_some]
      have es : (env l p.Sensors.toNat (t + 1)).2[j]? = some (sen p l t j) := by
        unfold sen
        have := env_len l p.Sensors.toNat (t + 1)
        rw [List.getElem?_eq_getElem (by omega), List.getD_eq_getElem?_getD, List.getElem?_eq_getElem (by omega)]; rfl
      refine Tot.ite (fun h => ?_) fun h => ?_
      · rw [at?_nat, es]
        simp only [Option.bind_some]
        rw [at?_nat, vj]
        simp only [Option.bind_some]
        refine Tot.bind _ (Tot.at_ (by omega) (by simp; omega)) fun _ _ => .pure ?_
        refine ⟨by simpa using f1, by simpa using f2, set_step (f := kv p l (t + 1)) (g := kv p l t) f1 f3 (by simp [kv, h]) hj, ?_⟩
        rw [List.set_set]
        exact set_step (f := ka p l (t + 1)) (g := ka p l t) f2 f4 (by simp [ka, h]) hj
      · refine .pure ⟨f1, by simpa using f2, fun q hq => ?_, set_step (f := ka p l (t + 1)) (g := ka p l t) f2 f4 (by simp [ka, h]) hj⟩
        rw [f3 q hq]
        congr 1
        by_cases hlt : q < j
        · rw [if_pos hlt, if_pos (by omega)]
        · by_cases hqj : q = j
          · subst hqj; rw [if_neg hlt, if_pos (by omega)]; simp [kv, h]
          · rw [if_neg hlt, if_neg (by omega)]
    rintro ⟨va', ag'⟩ ⟨f1, f2, f3, f4⟩
    simp only at f1 f2 f3 f4 ⊢
    have f3 : ∀ q, q < p.Sensors.toNat → va'[q]? = some (kv p l (t + 1) q) := fun q hq => by have := f3 q hq; rwa [if_pos hq] at this
    have f4 : ∀ q, q < p.Sensors.toNat → ag'[q]? = some (ka p l (t + 1) q) := fun q hq => by have := f4 q hq; rwa [if_pos hq] at this
    refine Tot.eq (push?_le (by simp; omega)) ?_
    refine Tot.eq (push?_le (by simp; omega)) ?_
    simp only [List.nil_append]
    -- what is told
    refine Tot.bind (fun (s : List Int × Int) => s.1.length = p.Doors.length ∧ ∀ (d : Nat) g, p.Doors[d]? = some g → s.1[d]? = some (says p l t g)) ?_ ?_
    · cases hpw : pw p l t with
      | false =>
        refine ⟨_, whileO_inr (r := (List.replicate (p.Doors.length : Int).toNat (0 : Int), (0 : Int))) ?_, by simp, fun d g hd => ?_⟩
        · split <;> rfl
        · have := (List.getElem?_eq_some_iff.1 hd).1
          simp [List.getElem?_replicate, this, says, hpw]
      | true =>
        refine whileO_inv (fun j (s : List Int × Int) => s.2 = (j : Int) ∧ s.1.length = p.Doors.length ∧ ∀ (d : Nat) g, p.Doors[d]? = some g → d < j → s.1[d]? = some (says p l t g)) _ p.Doors.length 0 _ ⟨rfl, by simp, fun d g hd h => by omega⟩ ?_ ?_
        · rintro j ⟨to, s2⟩ _ hj ⟨g1, g2, g3⟩
          simp only at g1 g2 g3 ⊢
          subst g1
          obtain ⟨g, hg⟩ : ∃ g, p.Doors[j]? = some g := ⟨_, List.getElem?_eq_getElem (by omega)⟩
          rw [if_pos (by simp; omega)]
          simp only [if_true, Option.bind_some, onL]
          rw [F71_eq hp (l := l) (t := t) (x := ⟨true, va', ag', to, List.replicate (p.Doors.length : Int).toNat false⟩) f3 f4 hg]
          simp only [Option.bind_some]
          obtain ⟨z, hz⟩ : ∃ z, to[j]? = some z := ⟨_, List.getElem?_eq_getElem (by omega)⟩
          rw [at?_nat, hz]
          simp only [Option.bind_some]
          refine .inl ⟨_, rfl, by rw [w64_eq (by omega) (by omega)]; omega, by simpa using g2, fun d g' hd hlt => ?_⟩
          rw [show ((j : Int)).toNat = j by omega, List.getElem?_set]
          by_cases hdj : j = d
          · subst hdj
            rw [hg] at hd; cases hd
            rw [if_pos rfl, if_pos (by omega)]
            unfold says; rw [hpw]; rfl
          · rw [if_neg hdj]
            exact g3 d g' hd (by omega)
        · rintro ⟨to, s2⟩ ⟨g1, g2, g3⟩
          simp only at g1 g2 g3 ⊢
          refine ⟨(to, s2), ?_, g2, fun d g hd => g3 d g hd ?_⟩
          · rw [if_neg (by simp; omega)]; rfl
          · have := (List.getElem?_eq_some_iff.1 hd).1; omega
    rintro ⟨to, s2⟩ ⟨g2, g3⟩
    simp only at g2 g3 ⊢
    refine Tot.eq (push?_le (by simp; omega)) ?_
    have base : ∀ shv, FrameIs p l t ⟨pw p l t, va', ag', to, shv⟩ := fun shv => ⟨rfl, by show (va'.length : Int) = _; omega, by show (ag'.length : Int) = _; omega, f3, f4, g2, g3⟩
    have all : ∀ shv (u : Nat) x, (out ++ [(⟨pw p l t, va', ag', to, shv⟩ : Ref08_Frame)])[u]? = some x → FrameIs p l u x := by
      intro shv u x hx
      rcases Nat.lt_or_ge u t with h | h
      · rw [List.getElem?_append_left (by omega)] at hx
        exact (hB.2 u x hx).toFrameIs
      · rw [List.getElem?_append_right (by omega)] at hx
        have : u = t := by
          rcases Nat.lt_or_ge (u - out.length) 1 with h' | h'
          · omega
          · rw [List.getElem?_eq_none (by simpa using h')] at hx; cases hx
        subst this
        rw [ol, Nat.sub_self] at hx
        simp only [List.getElem?_cons_zero, Option.some.injEq] at hx
        subst hx
        exact base shv
    refine Tot.bind _ (Tot.forS (fun d s => s.length = p.Doors.length ∧ ∀ (e : Nat) g, p.Doors[e]? = some g → e < d → s[e]? = some (sh p l e g (t + 1))) ⟨by simp, fun e g _ h => by omega⟩ ?_) ?_
    · rintro d s hd ⟨q1, q2⟩
      obtain ⟨g, hg⟩ : ∃ g, p.Doors[d]? = some g := ⟨_, List.getElem?_eq_getElem hd⟩
      have ed : ((d : Int)).toNat = d := by omega
      rw [F72_eq hp ht' (fr := out ++ [(⟨pw p l t, va', ag', to, s⟩ : Ref08_Frame)]) (by simp [ol]) (all s) hg, F70_eq, ed]
      have put : ∀ z, z = sh p l d g (t + 1) → (s.set d z).length = p.Doors.length ∧ ∀ (e : Nat) g, p.Doors[e]? = some g → e < d + 1 → (s.set d z)[e]? = some (sh p l e g (t + 1)) := by
        intro z hz
        refine ⟨by simpa using q1, fun e g' he hlt => ?_⟩
        rw [List.getElem?_set]
        by_cases hde : d = e
        · subst hde
          rw [hg] at he; cases he
          rw [if_pos rfl, if_pos (by omega), hz]
        · rw [if_neg hde]
          exact q2 e g' he (by omega)
      obtain ⟨z0, hz0⟩ : ∃ z, s[d]? = some z := ⟨_, List.getElem?_eq_getElem (by omega)⟩
      refine Tot.bind (fun v => v = sh p l d g t) ?_ ?_
      · refine Tot.ite (fun h => ?_) fun h => .pure ?_
        · have h : 0 < t := by simpa using h
          obtain ⟨x, hx⟩ : ∃ x, out[t - 1]? = some x := ⟨_, List.getElem?_eq_getElem (by omega)⟩
          have X := hB.2 _ x hx
          rw [w64_eq (by omega) (by omega), at?_of (x := x) (by omega) (by rw [show ((t : Int) - 1).toNat = t - 1 by omega, List.getElem?_append_left (by omega)]; exact hx)]
          simp only [Option.bind_some]
          rw [at?_nat, X.shut d g hg]
          refine .pure ?_
          rw [show t - 1 + 1 = t by omega]
        · have : t = 0 := by simp at h; omega
          subst this; rfl
      rintro _ rfl
      rw [at?_nat, hz0]
      simp only [Option.bind_some]
      have unf : sh p l d g (t + 1) = (pw p l t && (decide (0 < lf p l d g (t + 1)) && (!hasL l t 6 d || sh p l d g t))) := rfl
      refine Tot.ite (fun h1 => Tot.ite (fun h2 => Tot.ite (fun h3 => .pure (put _ ?_)) fun h3 => .pure (put _ ?_)) fun h2 => .pure (put _ ?_)) fun h1 => .pure (put _ ?_)
      · rw [unf, h1, h2, h3]; rfl
      · simp at h3; rw [unf, h1, h2, h3]; rfl
      · simp at h2; rw [unf, h1, decide_eq_false (by omega)]; rfl
      · simp at h1; rw [unf, h1]; rfl
    · rintro s ⟨q1, q2⟩
      refine .pure ⟨⟨by simp [ol], fun u x hx => ?_⟩, f1, f2, f3, f4⟩
      rcases Nat.lt_or_ge u t with h | h
      · rw [List.getElem?_append_left (by omega)] at hx
        exact hB.2 u x hx
      · rw [List.getElem?_append_right (by omega)] at hx
        have : u = t := by
          rcases Nat.lt_or_ge (u - out.length) 1 with h' | h'
          · omega
          · rw [List.getElem?_eq_none (by simpa using h')] at hx; cases hx
        subst this
        rw [ol, Nat.sub_self] at hx
        simp only [List.getElem?_cons_zero, Option.some.injEq] at hx
        subst hx
        exact ⟨base s, q1, fun e g he => q2 e g he (List.getElem?_eq_some_iff.1 he).1⟩
  · rintro ⟨out, va, ag⟩ ⟨hB, _⟩
    exact .pure hB

/-- A frame as a number. -/
theorem F53_law {p : Panel} (hp : GoodPanel p) {l : List Signal} {t : Nat} {x : Ref08_Frame} (hx : FullIs p l t x) : Tot (F53 x) (fun r => RowIs r (shutAt p l t)) := by
  have c := hp.d
  have sl := hx.sl
  unfold F53
  refine Tot.bind _ (Tot.forS (fun i r => RowIs r (fun d => decide (d < i) && shutAt p l t d)) ⟨0, rfl, by decide, fun d => by simp⟩ ?_) ?_
  · rintro i r hi ⟨nn, e3, e4, e5⟩
    have hi' : i < p.Doors.length := by omega
    obtain ⟨g, hg⟩ : ∃ g, p.Doors[i]? = some g := ⟨_, List.getElem?_eq_getElem hi'⟩
    have sa : shutAt p l t i = sh p l i g (t + 1) := by unfold shutAt; rw [hg]
    rw [at?_nat, hx.shut i g hg]
    simp only [Option.bind_some]
    refine Tot.ite (fun hs => ?_) fun hs => ?_
    · rw [wu64_nat (by omega), e3, shlI_one (by omega), orI_nat (by omega)]
      · refine .pure ⟨nn ||| 2 ^ i, rfl, ?_, fun d => ?_⟩
        · refine Nat.or_lt_two_pow (n := 8) e4 ?_
          exact Nat.pow_lt_pow_right (by decide) (by omega)
        · show _ = (decide (d < i + 1) && shutAt p l t d)
          rw [Nat.testBit_or, e5, Nat.testBit_two_pow]
          by_cases h : d = i
          · subst h; rw [sa, hs]; simp
          · have h1 : decide (i = d) = false := decide_eq_false (Ne.symm h)
            have h2 : decide (d < i + 1) = decide (d < i) := by
              apply decide_eq_decide.2; omega
            rw [h1, h2, Bool.or_false]
      · calc 2 ^ i ≤ 2 ^ 8 := Nat.pow_le_pow_right (by decide) (by omega)
          _ < 2 ^ 62 := by decide
    · refine .pure ⟨nn, e3, e4, fun d => ?_⟩
      show _ = (decide (d < i + 1) && shutAt p l t d)
      rw [e5]
      by_cases h : d = i
      · subst h
        have : sh p l d g (t + 1) = false := by simpa using hs
        rw [sa, this]; simp
      · have h2 : decide (d < i + 1) = decide (d < i) := by
          apply decide_eq_decide.2; omega
        rw [h2]
  · rintro r ⟨nn, a1, a2, a3⟩
    refine .pure ⟨nn, a1, a2, fun d => ?_⟩
    rw [a3]
    by_cases hd : d < p.Doors.length
    · simp [sl, hd]
    · simp [sl, hd, shutAt, List.getElem?_eq_none (Nat.le_of_not_lt hd)]

theorem RowIs.uniq {a b : Int} {f : Nat → Bool} (h : RowIs a f) (h' : RowIs b f) : a = b := by
  obtain ⟨n, rfl, _, h3⟩ := h
  obtain ⟨m, rfl, _, h6⟩ := h'
  have : n = m := Nat.eq_of_testBit_eq fun i => by rw [h3, h6]
  rw [this]
theorem RowsAre.uniq {p : Panel} {l : List Signal} {n : Nat} {a b : List Int} (h : RowsAre p l n a) (h' : RowsAre p l n b) : a = b := by
  apply List.ext_getElem?
  intro i
  by_cases hi : i < n
  · have h1 := h.1; have h2 := h'.1
    rw [List.getElem?_eq_getElem (by omega), List.getElem?_eq_getElem (by omega)]
    congr 1
    exact RowIs.uniq (h.2 i _ (List.getElem?_eq_getElem (by omega))) (h'.2 i _ (List.getElem?_eq_getElem (by omega)))
  · have h1 := h.1; have h2 := h'.1
    rw [List.getElem?_eq_none (by omega), List.getElem?_eq_none (by omega)]

/-- What begin, Play (program, reference) answer, errors and all. -/
theorem F45_err (p : Panel) (ticks : Int) (l : List Signal) : Tot (F45 p ticks l) (fun r => r.2 = err p ticks l ∧ (err p ticks l = 0 → Played p l ticks.toNat r.1)) := by
  rcases checks p with ⟨hp, _, h27⟩ | ⟨hp, _, h27⟩
  case inr =>
    refine ⟨([], 80), ?_, ?_, fun h => absurd (err_zero h).1 hp⟩
    · unfold F45; rw [h27]; rfl
    · unfold err; rw [if_neg hp]
  rw [err_good hp]
  by_cases ht : 0 ≤ ticks ∧ ticks ≤ 1000
  · rw [if_pos ht]
    refine (F45_spec hp ht.1 ht.2 l).mono fun r hr => ?_
    rcases hr with ⟨h1, h2, h3⟩ | ⟨h1, h2⟩
    · rw [if_pos h1]; exact ⟨h2, fun _ => h3⟩
    · rw [if_neg h1]; exact ⟨h2, fun h => by cases h⟩
  · rw [if_neg ht]
    refine ⟨([], 1), ?_, rfl, fun h => by cases h⟩
    unfold F45
    rw [h27]
    simp only [Option.bind_some]
    rw [if_neg (by simp)]
    simp only [F48_eq, Option.bind_some]
    rw [if_pos (by rw [decide_eq_false ht]; rfl)]
theorem F17_err (p : Panel) (ticks : Int) (l : List Signal) : Tot (F17 p ticks l) (fun r => r.2 = err p ticks l ∧ (err p ticks l = 0 → RowsAre p l ticks.toNat r.1) ∧ (err p ticks l ≠ 0 → r.1 = [])) := by
  unfold F17
  refine Tot.bind _ (F45_err p ticks l) fun r hr => ?_
  by_cases h : err p ticks l = 0
  · obtain ⟨hp, ht, hL⟩ := err_zero h
    rw [if_neg (by simp [hr.1, h])]
    exact Tot.bind _ (F46_spec hp (by omega) (hr.2 h)) fun rows hrows => .pure ⟨h.symm, fun _ => hrows, fun h' => absurd h h'⟩
  · rw [if_pos (by simp [hr.1, h])]
    exact .pure ⟨hr.1, fun h' => absurd h' h, fun _ => rfl⟩
theorem F28_err (p : Panel) (ticks : Int) (l : List Signal) : Tot (F28 p ticks l) (fun r => r.2 = err p ticks l ∧ (err p ticks l = 0 → RowsAre p l ticks.toNat r.1) ∧ (err p ticks l ≠ 0 → r.1 = [])) := by
  unfold F28
  rw [F51_eq]
  simp only [Option.bind_some]
  by_cases h : err p ticks l = 0
  case neg =>
    rw [if_pos (by simp [h])]
    exact .pure ⟨rfl, fun h' => absurd h' h, fun _ => rfl⟩
  obtain ⟨hp, ht, hL⟩ := err_zero h
  rw [if_neg (by simp [h])]
  refine Tot.bind _ (F52_spec hp ht.1 ht.2 (fun x hx => (hL.2 x hx).good.k1)) fun out ho => ?_
  refine Tot.eq (cnt?_le (by omega)) ?_
  have hl := ho.1
  refine Tot.bind _ (Tot.forS (fun t s => RowsAre p l t s) ⟨rfl, fun t row h => by simp at h⟩ ?_) ?_
  · rintro t s ht' ⟨q1, q2⟩
    obtain ⟨x, hx⟩ : ∃ x, out[t]? = some x := ⟨_, List.getElem?_eq_getElem (by omega)⟩
    rw [at?_nat, hx]
    simp only [Option.bind_some]
    refine Tot.bind _ (F53_law hp (ho.2 t x hx)) fun row hrow => ?_
    refine Tot.eq (push?_le (by simp; omega)) ?_
    refine .pure ⟨by simp [q1], fun t' row' hr => ?_⟩
    rcases Nat.lt_or_ge t' t with h | h
    · rw [List.getElem?_append_left (by omega)] at hr
      exact q2 t' row' hr
    · rw [List.getElem?_append_right (by omega)] at hr
      have : t' = t := by
        rcases Nat.lt_or_ge (t' - s.length) 1 with h' | h'
        · omega
        · rw [List.getElem?_eq_none (by simpa using h')] at hr; cases hr
      subst this
      rw [q1, Nat.sub_self] at hr
      simp only [List.getElem?_cons_zero, Option.some.injEq] at hr
      subst hr
      exact hrow
  · intro s hs
    exact .pure ⟨h.symm, fun _ => hs, fun h' => absurd h h'⟩
theorem F22_eq (p : Panel) (ticks : Int) (l : List Signal) : F22 p ticks l = some (err p ticks l == 0) := by
  unfold F22
  obtain ⟨r, h1, h2, _⟩ := F28_err p ticks l
  rw [h1]
  simp only [Option.bind_some]
  rw [h2]
theorem F20_eq (n : Int) : F20 n = some (decide (60 < n ∧ n ≤ 1000)) := by
  unfold F20
  by_cases h : 60 < n <;> simp [h]
end Go.Proofs.Ytfeomcdhhgeilaa.Pad
