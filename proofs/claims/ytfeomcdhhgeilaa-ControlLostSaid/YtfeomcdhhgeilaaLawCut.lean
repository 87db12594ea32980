/- The fewest losses: what the program's search and the reference's find. -/
import Derived.Test.YtfeomcdhhgeilaaLawStands
import Derived.Test.YtfeomcdhhgeilaaLawShuts
set_option linter.unusedVariables false
set_option linter.unusedSimpArgs false
namespace Go.Proofs.Ytfeomcdhhgeilaa.Pad
open Go

/-! ## Maps as functions -/
theorem mget_mset {K V : Type} [DecidableEq K] (m : List (K × V)) (k k' : K) (v : V) : mget? (mset m k v) k' = if k' = k then some v else mget? m k' := by
  induction m with
  | nil => simp [mset, mget?]
  | cons x m ih =>
    obtain ⟨a, u⟩ := x
    unfold mset
    by_cases h : k = a
    · subst h
      rw [if_pos rfl]
      unfold mget?
      by_cases h' : k' = k <;> simp [h']
    · rw [if_neg h]
      unfold mget?
      by_cases h' : k' = a
      · subst h'
        have : ¬k' = k := fun e => h e.symm
        simp [this]
      · rw [if_neg h', if_neg h', ih]

/-! ## A door, tick by tick, with losses -/
abbrev DoorSt := Int × Bool
def stepD (p : Panel) (l : List Signal) (d : Nat) (g : Gate) (t : Nat) (lost : Bool) (s : DoorSt) : DoorSt :=
  (nextL g.Wait (pw p l t) (if lost then 0 else hears p l t d g) s.1, pw p l t && (decide (0 < nextL g.Wait (pw p l t) (if lost then 0 else hears p l t d g) s.1) && (!hasL l t 6 d || s.2)))
def never : Int := 1099511627776
section
variable (p : Panel) (l : List Signal) (d : Nat) (g : Gate)
def lst : Nat → Nat → DoorSt → Int
  | 0, _, s => if s.2 then never else 0
  | r + 1, t, s => min (lst r (t + 1) (stepD p l d g t false s)) (lst r (t + 1) (stepD p l d g t true s) + 1)
def ext : Nat → Nat → Nat → DoorSt → Option (List Int)
  | 0, _, c, s => if c = 0 ∧ s.2 = false then some [] else none
  | r + 1, t, 0, s => ext r (t + 1) 0 (stepD p l d g t false s)
  | r + 1, t, c + 1, s => match ext r (t + 1) c (stepD p l d g t true s) with
    | some e => some ((t : Int) :: e)
    | none => ext r (t + 1) (c + 1) (stepD p l d g t false s)
def runF (f : Nat → Bool) : Nat → Nat → DoorSt → DoorSt
  | 0, _, s => s
  | r + 1, t, s => runF f r (t + 1) (stepD p l d g t (f t) s)
end
def inL (q : List Int) (t : Nat) : Bool := q.any fun x => decide (x = (t : Int))

section
variable {p : Panel} {l : List Signal} {d : Nat} {g : Gate}
theorem stepD_bound (hw : 1 ≤ g.Wait) {t : Nat} {b : Bool} {s : DoorSt} (h : 0 ≤ s.1 ∧ s.1 ≤ g.Wait) : 0 ≤ (stepD p l d g t b s).1 ∧ (stepD p l d g t b s).1 ≤ g.Wait := by
  unfold stepD nextL
  simp only
  split
  · omega
  · split <;> omega
theorem lst_bound : ∀ r t s, 0 ≤ lst p l d g r t s ∧ lst p l d g r t s ≤ never + r
  | 0, t, s => by unfold lst never; split <;> omega
  | r + 1, t, s => by
    have a := lst_bound r (t + 1) (stepD p l d g t false s)
    have b := lst_bound r (t + 1) (stepD p l d g t true s)
    unfold lst
    omega
theorem lst_init : ∀ r t, lst p l d g r t (0, false) ≤ r
  | 0, t => by unfold lst; simp
  | r + 1, t => by
    have e : stepD p l d g t true (0, false) = (0, false) := by
      have hm : max (0 : Int) (-1) = 0 := by decide
      unfold stepD nextL
      cases pw p l t <;> simp [hm]
    have := lst_init r (t + 1)
    unfold lst
    rw [e]
    omega
theorem ext_len : ∀ {r t c s e}, ext p l d g r t c s = some e → e.length = c
  | 0, t, c, s, e, h => by
    unfold ext at h
    split at h
    · rename_i hc; cases h; exact hc.1.symm
    · cases h
  | r + 1, t, 0, s, e, h => by unfold ext at h; exact ext_len h
  | r + 1, t, c + 1, s, e, h => by
    unfold ext at h
    split at h
    · rename_i e' he; cases h; simp [ext_len he]
    · exact ext_len h
theorem lst_le : ∀ {r t c s e}, ext p l d g r t c s = some e → lst p l d g r t s ≤ c
  | 0, t, c, s, e, h => by
    unfold ext at h
    unfold lst
    split at h
    · rename_i hc; rw [hc.2]; simp
    · cases h
  | r + 1, t, 0, s, e, h => by
    unfold ext at h
    have := lst_le h
    unfold lst; omega
  | r + 1, t, c + 1, s, e, h => by
    unfold ext at h
    unfold lst
    split at h
    · rename_i e' he
      have := lst_le he
      omega
    · have := lst_le h
      omega
theorem ext_ex : ∀ r t s, lst p l d g r t s < never → ∃ e, ext p l d g r t (lst p l d g r t s).toNat s = some e
  | 0, t, s, h => by
    unfold lst at h ⊢
    unfold ext
    cases hs : s.2 with
    | true => rw [hs] at h; simp at h
    | false => exact ⟨[], by simp⟩
  | r + 1, t, s, h => by
    have a := lst_bound (p := p) (l := l) (d := d) (g := g) r (t + 1) (stepD p l d g t false s)
    have b := lst_bound (p := p) (l := l) (d := d) (g := g) r (t + 1) (stepD p l d g t true s)
    have hl : lst p l d g (r + 1) t s = min (lst p l d g r (t + 1) (stepD p l d g t false s)) (lst p l d g r (t + 1) (stepD p l d g t true s) + 1) := rfl
    by_cases hc : lst p l d g r (t + 1) (stepD p l d g t true s) + 1 ≤ lst p l d g r (t + 1) (stepD p l d g t false s)
    · obtain ⟨e, he⟩ := ext_ex r (t + 1) (stepD p l d g t true s) (by omega)
      have : (lst p l d g (r + 1) t s).toNat = (lst p l d g r (t + 1) (stepD p l d g t true s)).toNat + 1 := by omega
      rw [this]
      unfold ext
      rw [he]
      exact ⟨_, rfl⟩
    · obtain ⟨e, he⟩ := ext_ex r (t + 1) (stepD p l d g t false s) (by omega)
      have : lst p l d g (r + 1) t s = lst p l d g r (t + 1) (stepD p l d g t false s) := by omega
      rw [this]
      cases hn : (lst p l d g r (t + 1) (stepD p l d g t false s)).toNat with
      | zero => rw [hn] at he; exact ⟨e, by unfold ext; exact he⟩
      | succ c =>
        rw [hn] at he
        unfold ext
        split
        · exact ⟨_, rfl⟩
        · exact ⟨e, he⟩
/-- The message is lost if that is on a shortest way. -/
theorem ext_true {r t : Nat} {s : DoorSt} (h : lst p l d g (r + 1) t s < never) (hc : lst p l d g r (t + 1) (stepD p l d g t true s) + 1 = lst p l d g (r + 1) t s) {e : List Int}
    (he : ext p l d g (r + 1) t (lst p l d g (r + 1) t s).toNat s = some e) : ∃ e', e = (t : Int) :: e' ∧ ext p l d g r (t + 1) (lst p l d g r (t + 1) (stepD p l d g t true s)).toNat (stepD p l d g t true s) = some e' := by
  have b := lst_bound (p := p) (l := l) (d := d) (g := g) r (t + 1) (stepD p l d g t true s)
  obtain ⟨e', he'⟩ := ext_ex (p := p) (l := l) (d := d) (g := g) r (t + 1) (stepD p l d g t true s) (by omega)
  have : (lst p l d g (r + 1) t s).toNat = (lst p l d g r (t + 1) (stepD p l d g t true s)).toNat + 1 := by omega
  rw [this] at he
  unfold ext at he
  rw [he'] at he
  cases he
  exact ⟨e', rfl, he'⟩
theorem ext_false {r t : Nat} {s : DoorSt} (h : lst p l d g (r + 1) t s < never) (hc : lst p l d g r (t + 1) (stepD p l d g t true s) + 1 ≠ lst p l d g (r + 1) t s) {e : List Int}
    (he : ext p l d g (r + 1) t (lst p l d g (r + 1) t s).toNat s = some e) : lst p l d g r (t + 1) (stepD p l d g t false s) = lst p l d g (r + 1) t s ∧ ext p l d g r (t + 1) (lst p l d g r (t + 1) (stepD p l d g t false s)).toNat (stepD p l d g t false s) = some e := by
  have a := lst_bound (p := p) (l := l) (d := d) (g := g) r (t + 1) (stepD p l d g t false s)
  have b := lst_bound (p := p) (l := l) (d := d) (g := g) r (t + 1) (stepD p l d g t true s)
  have hl : lst p l d g (r + 1) t s = min (lst p l d g r (t + 1) (stepD p l d g t false s)) (lst p l d g r (t + 1) (stepD p l d g t true s) + 1) := rfl
  have e1 : lst p l d g r (t + 1) (stepD p l d g t false s) = lst p l d g (r + 1) t s := by omega
  refine ⟨e1, ?_⟩
  rw [e1]
  cases hn : (lst p l d g (r + 1) t s).toNat with
  | zero => rw [hn] at he; unfold ext at he; exact he
  | succ c =>
    rw [hn] at he
    unfold ext at he
    split at he
    · rename_i e' he'
      have := lst_le he'
      omega
    · exact he
/-- With no more losses. -/
theorem ext_zero : ∀ r t s, ext p l d g r t 0 s = if (runF p l d g (fun _ => false) r t s).2 = false then some [] else none
  | 0, t, s => by unfold ext runF; simp
  | r + 1, t, s => by unfold ext runF; exact ext_zero r (t + 1) _
theorem runF_congr {f f' : Nat → Bool} : ∀ r t s, (∀ u, t ≤ u → u < t + r → f u = f' u) → runF p l d g f r t s = runF p l d g f' r t s
  | 0, t, s, _ => rfl
  | r + 1, t, s, h => by
    unfold runF
    rw [h t (by omega) (by omega)]
    exact runF_congr r (t + 1) _ fun u a b => h u (by omega) (by omega)
theorem runF_add (f : Nat → Bool) : ∀ r r' t s, runF p l d g f (r + r') t s = runF p l d g f r' (t + r) (runF p l d g f r t s)
  | 0, r', t, s => by simp [runF]
  | r + 1, r', t, s => by
    rw [show r + 1 + r' = (r + r') + 1 by omega]
    show runF p l d g f (r + r') (t + 1) (stepD p l d g t (f t) s) = _
    rw [runF_add f r r' (t + 1), show t + 1 + r = t + (r + 1) by omega]
    rfl
theorem runF_last (f : Nat → Bool) (r t : Nat) (s : DoorSt) : runF p l d g f (r + 1) t s = stepD p l d g (t + r) (f (t + r)) (runF p l d g f r t s) := by
  rw [runF_add f r 1]; rfl
end

/-! ## Signals with losses -/
def lostS (d : Nat) (x : Int) : Signal := ⟨x, 3, d, 0⟩
def withL (l : List Signal) (d : Nat) (q : List Int) : List Signal := l ++ q.map (lostS d)
section
variable {p : Panel} {l : List Signal} {d : Nat} {g : Gate} {q : List Int}
theorem fold_with (t : Nat) (s : Bool × List Int) : (withL l d q).foldl (stp t) s = l.foldl (stp t) s := by
  unfold withL
  rw [List.foldl_append]
  generalize l.foldl (stp t) s = s'
  induction q with
  | nil => rfl
  | cons x q ih =>
    rw [List.map_cons, List.foldl_cons]
    have : stp t s' (lostS d x) = s' := by
      unfold stp lostS
      simp
    rw [this]; exact ih
theorem env_with (S : Nat) : ∀ t, env (withL l d q) S t = env l S t
  | 0 => rfl
  | t + 1 => by unfold env; rw [env_with S t, fold_with]
theorem has_with {k : Int} (hk : k ≠ 3) (t i : Nat) : hasL (withL l d q) t k i = hasL l t k i := by
  unfold hasL withL
  rw [List.any_append]
  have : ((q.map (lostS d)).any fun s => decide (s.At = (t : Int) ∧ s.Kind = k ∧ s.Number = (i : Int))) = false := by
    rw [List.any_eq_false]
    intro s hs
    obtain ⟨x, _, rfl⟩ := List.mem_map.1 hs
    have : ¬(3 : Int) = k := fun e => hk e.symm
    simp [lostS, this]
  rw [this, Bool.or_false]
theorem has_lost (t : Nat) : hasL (withL l d q) t 3 d = (hasL l t 3 d || inL q t) := by
  unfold hasL withL inL
  rw [List.any_append]
  congr 1
  rw [List.any_map]
  congr 1
  funext x
  show decide (x = (t : Int) ∧ (3 : Int) = 3 ∧ (d : Int) = (d : Int)) = decide (x = (t : Int))
  by_cases h : x = (t : Int) <;> simp [h]
theorem hears_with (t : Nat) : hears p (withL l d q) t d g = if inL q t then 0 else hears p l t d g := by
  have hs : says p (withL l d q) t g = says p l t g := by
    unfold says dec staleB failsB pw
    rw [env_with]
    simp only [ka_same (p := p) (m := withL l d q) (l := l) (fun S t => env_with S t) (fun t i => has_with (by decide) t i), kv_same (p := p) (m := withL l d q) (l := l) (fun S t => env_with S t) (fun t i => has_with (by decide) t i)]
  unfold hears
  rw [has_lost, hs]
  cases hasL l t 3 d <;> cases inL q t <;> rfl
/-- A door in a play with losses. -/
theorem run_with : ∀ t, (lf p (withL l d q) d g t, sh p (withL l d q) d g t) = runF p l d g (inL q) t 0 (0, false)
  | 0 => rfl
  | t + 1 => by
    rw [runF_last, ← run_with t, Nat.zero_add]
    have hp : pw p (withL l d q) t = pw p l t := by unfold pw; rw [env_with]
    have h6 := has_with (l := l) (d := d) (q := q) (k := 6) (by decide) t d
    have a : lf p (withL l d q) d g (t + 1) = nextL g.Wait (pw p (withL l d q) t) (hears p (withL l d q) t d g) (lf p (withL l d q) d g t) := rfl
    have b : sh p (withL l d q) d g (t + 1) = (pw p (withL l d q) t && (decide (0 < lf p (withL l d q) d g (t + 1)) && (!hasL (withL l d q) t 6 d || sh p (withL l d q) d g t))) := rfl
    rw [b, a, hp, h6, hears_with]
    rfl
theorem F18_eq (hq : l.length + q.length ≤ 2147483648) : F18 l (d : Int) q = some (withL l d q) := by
  suffices hh : Tot (F18 l (d : Int) q) (fun r => r = withL l d q) by
    obtain ⟨r, e, rfl⟩ := hh; exact e
  unfold F18
  refine Tot.eq (push?_le (by simp; omega)) ?_
  refine Tot.bind _ (Tot.forS (fun j s => s = withL l d (q.take j)) (by simp [withL]) ?_) ?_
  · rintro j s hj rfl
    obtain ⟨y, hy⟩ : ∃ y, q[j]? = some y := ⟨_, List.getElem?_eq_getElem hj⟩
    rw [at?_nat, hy]
    simp only [Option.bind_some]
    refine Tot.eq (push?_le (by simp [withL]; omega)) (.pure ?_)
    rw [List.take_add_one, hy]
    show _ = withL l d (q.take j ++ [y])
    unfold withL
    rw [List.map_append, List.append_assoc]; rfl
  · rintro s rfl
    rw [List.take_length]
    exact .pure rfl
end

/-! ## The program's search -/
section
variable {p : Panel} {l : List Signal} {d : Nat} {g : Gate} {n : Nat} {out : List Control_tick}
def cutr (out : List Control_tick) (g : Gate) (d : Nat) : Control_cutter := ⟨out, g.Wait, (d : Int), ⟨0⟩⟩
def plc (t : Nat) (s : DoorSt) : Control_place := ⟨(t : Int), ⟨s.1, s.2⟩⟩
theorem F60_eq (hp : GoodPanel p) (hd : p.Doors[d]? = some g) (hP : Played p l n out) {t : Nat} (ht : t < n) (hn : n ≤ 1000) {s : DoorSt} (hs : 0 ≤ s.1 ∧ s.1 ≤ g.Wait) (b : Bool) :
    F60 (cutr out g d) (plc t s) b = some (plc (t + 1) (stepD p l d g t b s)) := by
  have G := hp.g g (List.mem_of_getElem? hd)
  have w1 := G.w1
  have hl := hP.1
  obtain ⟨x, hx⟩ : ∃ x, out[t]? = some x := ⟨_, List.getElem?_eq_getElem (by omega)⟩
  have X := hP.2 t x hx
  have hdl := (List.getElem?_eq_some_iff.1 hd).1
  unfold F60 cutr plc
  simp only
  rw [at?_nat, hx]
  simp only [Option.bind_some]
  rw [at?_nat, X.heard d g hd, at?_nat, X.stood d hdl]
  simp only [Option.bind_some]
  have e : ((if b = true then some 0 else some (hears p l t d g)) : Option Int) = some (if b then 0 else hears p l t d g) := by cases b <;> rfl
  rw [e]
  simp only [Option.bind_some]
  rw [F67_eq hs.1 (by show s.1 ≤ 100; omega), X.power, w64_eq (by omega) (by omega)]
  rfl
def lstP (p : Panel) (l : List Signal) (d : Nat) (g : Gate) (n : Nat) (k : Control_place) : Int := lst p l d g (n - k.tick.toNat) k.tick.toNat (k.door.left, k.door.shut)
def MapOk (p : Panel) (l : List Signal) (d : Nat) (g : Gate) (n : Nat) (m : List (Control_place × Int)) : Prop := ∀ k v, mget? m k = some v → v = lstP p l d g n k
theorem minI_eq (a b : Int) : minI a b = min a b := by
  unfold minI; split <;> omega
theorem F59_spec (hp : GoodPanel p) (hd : p.Doors[d]? = some g) (hP : Played p l n out) (hn : n ≤ 1000) : ∀ (r t : Nat) (s : DoorSt) (m : List (Control_place × Int)) (fuel : Nat), t + r = n → r < fuel → (0 ≤ s.1 ∧ s.1 ≤ g.Wait) → MapOk p l d g n m →
    Tot (F59 fuel (cutr out g d) (plc t s) m) (fun q => q.1 = lst p l d g r t s ∧ MapOk p l d g n q.2) := by
  have G := hp.g g (List.mem_of_getElem? hd)
  have w0 := G.w0
  have hl := hP.1
  intro r
  induction r with
  | zero =>
    intro t s m fuel ht hf hs hm
    cases fuel with
    | zero => omega
    | succ fuel =>
      rw [F59]
      rw [if_pos (by simp [plc, cutr]; omega)]
      unfold lst
      show Tot (if s.2 = true then _ else _) _
      cases s.2 with
      | true => exact .pure ⟨rfl, hm⟩
      | false => exact .pure ⟨rfl, hm⟩
  | succ r ih =>
    intro t s m fuel ht hf hs hm
    cases fuel with
    | zero => omega
    | succ fuel =>
      rw [F59]
      rw [if_neg (by simp [plc, cutr]; omega)]
      have hk : lstP p l d g n (plc t s) = lst p l d g (r + 1) t s := by
        unfold lstP plc
        simp only [Int.toNat_natCast]
        rw [show n - t = r + 1 by omega]
      refine Tot.ite (fun hh => .pure ⟨?_, hm⟩) fun hh => ?_
      · unfold mhas at hh
        obtain ⟨v, hv⟩ := Option.isSome_iff_exists.1 hh
        show mlook 0 m (plc t s) = _
        unfold mlook
        rw [hv]
        exact (hm _ _ hv).trans hk
      · rw [F60_eq hp hd hP (by omega) hn hs, F60_eq hp hd hP (by omega) hn hs]
        simp only [Option.bind_some]
        refine Tot.bind _ (ih (t + 1) (stepD p l d g t false s) m fuel (by omega) (by omega) (stepD_bound w0 hs) hm) fun q1 h1 => ?_
        refine Tot.bind _ (ih (t + 1) (stepD p l d g t true s) q1.2 fuel (by omega) (by omega) (stepD_bound w0 hs) h1.2) fun q2 h2 => ?_
        have b1 := lst_bound (p := p) (l := l) (d := d) (g := g) r (t + 1) (stepD p l d g t true s)
        have ev : minI q1.1 (w64 (q2.1 + 1)) = lst p l d g (r + 1) t s := by
          rw [minI_eq, h1.1, h2.1, w64_eq (by unfold never at b1; omega) (by unfold never at b1; omega)]
          rfl
        rw [ev]
        refine .pure ⟨rfl, fun k v hv => ?_⟩
        rw [mget_mset] at hv
        split at hv
        · rename_i e; cases hv; rw [e, hk]
        · exact h2.2 k v hv

/-- What Cut answers. -/
def CutIs (p : Panel) (ticks : Int) (l : List Signal) (door : Int) (r : List Int × Int) : Prop :=
  (err p ticks l ≠ 0 ∧ r = ([], err p ticks l)) ∨ (err p ticks l = 0 ∧ ¬(0 ≤ door ∧ door ≤ (p.Doors.length : Int) - 1) ∧ r = ([], 1)) ∨
  (err p ticks l = 0 ∧ (0 ≤ door ∧ door ≤ (p.Doors.length : Int) - 1) ∧ ticks = 0 ∧ r = ([], 3)) ∨
  (err p ticks l = 0 ∧ (0 ≤ door ∧ door ≤ (p.Doors.length : Int) - 1) ∧ ticks ≠ 0 ∧ ∃ g e, p.Doors[door.toNat]? = some g ∧ ext p l door.toNat g ticks.toNat 0 (lst p l door.toNat g ticks.toNat 0 (0, false)).toNat (0, false) = some e ∧ r = (e, 0))
theorem CutIs.uniq {p : Panel} {ticks : Int} {l : List Signal} {door : Int} {r q : List Int × Int} (h : CutIs p ticks l door r) (k : CutIs p ticks l door q) : r = q := by
  rcases h with ⟨a, rfl⟩ | ⟨a, b, rfl⟩ | ⟨a, b, c, rfl⟩ | ⟨a, b, c, g, e, hg, he, rfl⟩ <;> rcases k with ⟨a', rfl⟩ | ⟨a', b', rfl⟩ | ⟨a', b', c', rfl⟩ | ⟨a', b', c', g', e', hg', he', rfl⟩ <;>
    first | rfl | exact absurd a' a | exact absurd a a' | exact absurd b' b | exact absurd b b' | exact absurd c c' | exact absurd c' c | skip
  rw [hg] at hg'; cases hg'
  rw [he] at he'; cases he'
  rfl

theorem F41_law (p : Panel) (ticks : Int) (l : List Signal) (door : Int) : Tot (F41 p ticks l door) (CutIs p ticks l door) := by
  unfold F41
  refine Tot.bind _ (F45_err p ticks l) fun r hr => ?_
  by_cases h : err p ticks l = 0
  case neg =>
    rw [if_pos (by simp [hr.1, h])]
    exact .pure (.inl ⟨h, by rw [hr.1]⟩)
  obtain ⟨hp, ht, hL⟩ := err_zero h
  have c := hp.d
  have w3 : w64 ((p.Doors.length : Int) - 1) = (p.Doors.length : Int) - 1 := w64_eq (by omega) (by omega)
  rw [if_neg (by simp [hr.1, h]), F48_eq, w3]
  simp only [Option.bind_some]
  by_cases hd : 0 ≤ door ∧ door ≤ (p.Doors.length : Int) - 1
  case neg =>
    rw [if_pos (by rw [decide_eq_false hd]; rfl)]
    exact .pure (.inr (.inl ⟨h, hd, rfl⟩))
  rw [if_neg (by rw [decide_eq_true hd]; decide)]
  by_cases h0 : ticks = 0
  · rw [if_pos (by simpa using h0)]
    exact .pure (.inr (.inr (.inl ⟨h, hd, h0, rfl⟩)))
  rw [if_neg (by simpa using h0)]
  have hP := hr.2 h
  obtain ⟨g, hg⟩ : ∃ g, p.Doors[door.toNat]? = some g := ⟨_, List.getElem?_eq_getElem (by omega)⟩
  have G := hp.g g (List.mem_of_getElem? hg)
  have w0 := G.w0
  rw [at?_of hd.1 hg]
  simp only [Option.bind_some]
  obtain ⟨d, rfl⟩ : ∃ d : Nat, door = (d : Int) := ⟨door.toNat, by omega⟩
  simp only [Int.toNat_natCast] at hg ⊢
  obtain ⟨n, rfl⟩ : ∃ n : Nat, ticks = (n : Int) := ⟨ticks.toNat, by omega⟩
  simp only [Int.toNat_natCast] at hP ⊢
  have hn : n ≤ 1000 := by omega
  have hi := lst_init (p := p) (l := l) (d := d) (g := g) n 0
  obtain ⟨E, hE⟩ := ext_ex (p := p) (l := l) (d := d) (g := g) n 0 (0, false) (by unfold never; omega)
  have elen := ext_len hE
  refine Tot.bind (fun (o : List Int × List (Control_place × Int) × Int × Int × Bool) => o.1 = E) ?_ ?_
  case refine_2 =>
    intro o ho
    exact .pure (.inr (.inr (.inr ⟨h, hd, h0, g, E, hg, hE, by rw [ho]⟩)))
  refine whileO_inv (fun t (o : List Int × List (Control_place × Int) × Int × Int × Bool) => t ≤ n ∧ o.1.length ≤ t ∧ o.2.2.1 = (t : Int) ∧ (0 ≤ o.2.2.2.1 ∧ o.2.2.2.1 ≤ g.Wait) ∧ MapOk p l d g n o.2.1 ∧
      lst p l d g (n - t) t (o.2.2.2.1, o.2.2.2.2) < never ∧ ∃ e, E = o.1 ++ e ∧ ext p l d g (n - t) t (lst p l d g (n - t) t (o.2.2.2.1, o.2.2.2.2)).toNat (o.2.2.2.1, o.2.2.2.2) = some e) _ n 0 _
      ⟨by omega, by simp, rfl, ⟨Int.le_refl _, (show (0 : Int) ≤ g.Wait by omega)⟩, fun k v hk => by simp [mget?] at hk, by show lst p l d g n 0 (0, false) < never; unfold never; omega, E, rfl, hE⟩ ?_ ?_
  · rintro t ⟨o1, o2, o3, o4, o5⟩ _ ht' ⟨q1, q2, q3, q4, q5, q6, e, q7, q8⟩
    simp only at q2 q3 q4 q5 q6 q7 q8 ⊢
    subst q3
    have htn : t < n := by omega
    rw [if_pos (by simpa using htn)]
    have hr1 : n - t = (n - (t + 1)) + 1 := by omega
    have eq : (⟨r.1, g.Wait, (d : Int), (⟨0⟩ : MRef)⟩ : Control_cutter) = cutr r.1 g d := rfl
    have eqp : (⟨(t : Int), (⟨o4, o5⟩ : Control_door)⟩ : Control_place) = plc t (o4, o5) := rfl
    rw [eq, eqp, F60_eq hp hg hP htn hn q4]
    simp only [Option.bind_some]
    obtain ⟨x41, a1, a2, a3⟩ := F59_spec hp hg hP hn (n - (t + 1)) (t + 1) (stepD p l d g t true (o4, o5)) o2 fuel_ (by omega) (by unfold fuel_; omega) (stepD_bound w0 q4) q5
    rw [a1]
    simp only [Option.bind_some]
    obtain ⟨x42, b1, b2, b3⟩ := F59_spec hp hg hP hn (n - t) t (o4, o5) x41.2 fuel_ (by omega) (by unfold fuel_; omega) q4 a3
    rw [b1]
    simp only [Option.bind_some]
    have bb := lst_bound (p := p) (l := l) (d := d) (g := g) (n - (t + 1)) (t + 1) (stepD p l d g t true (o4, o5))
    rw [a2, b2, w64_eq (by unfold never at bb; omega) (by unfold never at bb; omega)]
    rw [hr1] at q6 q8 ⊢
    by_cases hc : lst p l d g (n - (t + 1)) (t + 1) (stepD p l d g t true (o4, o5)) + 1 = lst p l d g ((n - (t + 1)) + 1) t (o4, o5)
    · have hb : (lst p l d g (n - (t + 1)) (t + 1) (stepD p l d g t true (o4, o5)) + 1 == lst p l d g ((n - (t + 1)) + 1) t (o4, o5)) = true := by simpa using hc
      rw [hb, if_pos rfl, push?_le (by simp; omega)]
      simp only [Option.bind_some]
      rw [F60_eq hp hg hP htn hn q4]
      obtain ⟨e', rfl, he'⟩ := ext_true q6 hc q8
      refine .inl ⟨_, rfl, by omega, by simp; omega, rfl, stepD_bound w0 q4, b3, ?_, e', by rw [q7]; simp, he'⟩
      show lst p l d g (n - (t + 1)) (t + 1) (stepD p l d g t true (o4, o5)) < never
      omega
    · have hb : (lst p l d g (n - (t + 1)) (t + 1) (stepD p l d g t true (o4, o5)) + 1 == lst p l d g ((n - (t + 1)) + 1) t (o4, o5)) = false := by simpa using hc
      rw [hb, if_neg (by decide), F60_eq hp hg hP htn hn q4]
      obtain ⟨z1, z2⟩ := ext_false q6 hc q8
      refine .inl ⟨_, rfl, by omega, by simp only; omega, rfl, stepD_bound w0 q4, b3, ?_, e, q7, z2⟩
      show lst p l d g (n - (t + 1)) (t + 1) (stepD p l d g t false (o4, o5)) < never
      omega
  · rintro ⟨o1, o2, o3, o4, o5⟩ ⟨q1, q2, q3, q4, q5, q6, e, q7, q8⟩
    simp only at q2 q3 q4 q5 q6 q7 q8 ⊢
    subst q3
    rw [Nat.zero_add] at q8 ⊢
    refine ⟨_, by rw [if_neg (by simp)], ?_⟩
    rw [Nat.sub_self] at q8
    unfold ext at q8
    split at q8
    · cases q8; simpa using q7.symm
    · cases q8
end

/-! ## The reference's search -/
section
variable {p : Panel} {l : List Signal} {d : Nat} {g : Gate}
theorem inL_app (q : List Int) (x : Int) (t : Nat) : inL (q ++ [x]) t = (inL q t || decide (x = (t : Int))) := by
  unfold inL; rw [List.any_append]; simp
theorem inL_far {q : List Int} {fr : Nat} (h : ∀ x ∈ q, x < (fr : Int)) {t : Nat} (ht : fr ≤ t) : inL q t = false := by
  unfold inL
  rw [List.any_eq_false]
  intro x hx
  have := h x hx
  simp; omega
def found (q : List Int) (c : Nat) : Option (List Int) → List Int × Bool
  | some e => (q ++ e, true)
  | none => (if c = 0 then q else [], false)
theorem F61_spec (hp : GoodPanel p) (hd : p.Doors[d]? = some g) {n : Nat} (hn0 : n ≠ 0) (hn : n ≤ 1000) (hL : ∀ x ∈ l, x.Kind = 1 → 0 ≤ x.Number ∧ x.Number < p.Sensors) (hl : l.length ≤ 200) :
    ∀ (c : Nat) (fuel fr : Nat) (q : List Int), c < fuel → fr ≤ n → c ≤ 1000 → q.length ≤ fr → (∀ x ∈ q, x < (fr : Int)) →
      F61 fuel p (n : Int) l (d : Int) q (fr : Int) (c : Int) = some (found q c (ext p l d g (n - fr) fr c (runF p l d g (inL q) fr 0 (0, false)))) := by
  intro c
  induction c with
  | zero =>
    intro fuel fr q hf hfr _ hq hb
    cases fuel with
    | zero => omega
    | succ fuel =>
      rw [F61]
      rw [if_pos (by simp), F18_eq (by omega)]
      simp only [Option.bind_some]
      obtain ⟨out, h1, h2⟩ := F52_spec hp (ticks := (n : Int)) (by omega) (by omega) (l := withL l d q) (fun x hx hk => by
        unfold withL at hx
        rcases List.mem_append.1 hx with hx | hx
        · exact hL x hx hk
        · obtain ⟨y, _, rfl⟩ := List.mem_map.1 hx
          simp [lostS] at hk)
      rw [h1]
      simp only [Option.bind_some]
      have hlen := h2.1
      rw [Int.toNat_natCast] at hlen
      obtain ⟨x, hx⟩ : ∃ x, out[n - 1]? = some x := ⟨_, List.getElem?_eq_getElem (by omega)⟩
      have X := h2.2 _ x hx
      rw [w64_eq (by omega) (by omega), at?_of (x := x) (by omega) (by rw [show ((n : Int) - 1).toNat = n - 1 by omega]; exact hx)]
      simp only [Option.bind_some]
      rw [at?_nat, X.shut d g hd]
      simp only [Option.bind_some]
      have e1 : sh p (withL l d q) d g (n - 1 + 1) = (runF p l d g (inL q) n 0 (0, false)).2 := by rw [← run_with, show n - 1 + 1 = n by omega]
      have e2 : runF p l d g (inL q) n 0 (0, false) = runF p l d g (fun _ => false) (n - fr) fr (runF p l d g (inL q) fr 0 (0, false)) := by
        conv => lhs; rw [show n = fr + (n - fr) by omega]
        rw [runF_add, Nat.zero_add]
        exact runF_congr _ _ _ fun u h _ => inL_far hb h
      rw [e1, e2, ext_zero]
      cases (runF p l d g (fun _ => false) (n - fr) fr (runF p l d g (inL q) fr 0 (0, false))).2 <;> simp [found]
  | succ c ih =>
    intro fuel fr q hf hfr hc1 hq hb
    cases fuel with
    | zero => omega
    | succ fuel =>
      rw [F61]
      rw [if_neg (by simp; omega)]
      generalize hR : ext p l d g (n - fr) fr (c + 1) (runF p l d g (inL q) fr 0 (0, false)) = R
      suffices hh : Tot (whileO (σ := (Int)) (ρ := (Int) ⊕ (List Int × Bool)) (fun s1 =>
           if decide (s1 < (n : Int)) then
           ((push? ([] : List Int) q).bind fun x23 =>
           (push? x23 ([s1] : List Int)).bind fun x24 =>
           (F61 fuel p (n : Int) l (d : Int) x24 (w64 (s1 + 1)) (w64 (((c + 1 : Nat) : Int) - 1))).bind fun x25 =>
           if x25.2 then
           (some (Sum.inr (Sum.inr (x25.1, true))))
           else
           (some (Sum.inl (w64 (s1 + 1)))))
           else
           (some (Sum.inr (Sum.inl s1)))) (fr : Int)) (Sum.elim (fun _ => R = none) (fun r => ∃ e, R = some e ∧ r = (q ++ e, true))) by
        obtain ⟨o, h1, h2⟩ := hh
        refine (congrArg (fun o => Option.bind o _) h1).trans ?_
        cases o with
        | inl s => rw [show R = none from h2]; rfl
        | inr r => obtain ⟨e, h3, rfl⟩ := h2; rw [h3]; rfl
      refine whileO_inv (fun j (s : Int) => s = ((fr + j : Nat) : Int) ∧ fr + j ≤ n ∧ R = ext p l d g (n - (fr + j)) (fr + j) (c + 1) (runF p l d g (inL q) (fr + j) 0 (0, false))) _ (n - fr) 0 _ ⟨by simp, by omega, by rw [Nat.add_zero]; exact hR.symm⟩ ?_ ?_
      · rintro j s _ hj ⟨rfl, h1, h2⟩
        generalize ht : fr + j = t at h1 h2 ⊢
        have htn : t < n := by omega
        rw [if_pos (by simpa using htn), push?_le (by simp; omega)]
        simp only [Option.bind_some, List.nil_append]
        rw [push?_le (by simp; omega)]
        simp only [Option.bind_some]
        have e1 : w64 ((t : Int) + 1) = ((t + 1 : Nat) : Int) := by rw [w64_eq (by omega) (by omega)]; omega
        have e2 : w64 (((c + 1 : Nat) : Int) - 1) = (c : Int) := by rw [w64_eq (by omega) (by omega)]; omega
        rw [e1, e2, ih fuel (t + 1) (q ++ [(t : Int)]) (by omega) (by omega) (by omega) (by simp; omega) (fun x hx => by
          rcases List.mem_append.1 hx with hx | hx
          · have := hb x hx; omega
          · simp at hx; omega)]
        simp only [Option.bind_some]
        have st : runF p l d g (inL (q ++ [(t : Int)])) (t + 1) 0 (0, false) = stepD p l d g t true (runF p l d g (inL q) t 0 (0, false)) := by
          rw [runF_last, Nat.zero_add, inL_app, decide_eq_true rfl, Bool.or_true]
          congr 1
          refine runF_congr _ _ _ fun u _ hu => ?_
          rw [inL_app, decide_eq_false (by omega), Bool.or_false]
        have sf : runF p l d g (inL q) (t + 1) 0 (0, false) = stepD p l d g t false (runF p l d g (inL q) t 0 (0, false)) := by
          rw [runF_last, Nat.zero_add, inL_far hb (by omega)]
        have hn1 : n - t = (n - (t + 1)) + 1 := by omega
        rw [st]
        rw [hn1] at h2
        unfold ext at h2
        cases he : ext p l d g (n - (t + 1)) (t + 1) c (stepD p l d g t true (runF p l d g (inL q) t 0 (0, false))) with
        | some e =>
          rw [he] at h2
          refine .inr ⟨.inr (q ++ ((t : Int) :: e), true), ?_, _, h2, rfl⟩
          simp [found]
        | none =>
          rw [he] at h2
          refine .inl ⟨((t + 1 : Nat) : Int), ?_, by omega, by omega, ?_⟩
          · simp [found]
          · rw [show fr + (j + 1) = t + 1 by omega, sf]; exact h2
      · rintro s ⟨rfl, h1, h2⟩
        have hfn : fr + (0 + (n - fr)) = n := by omega
        rw [hfn] at h2 ⊢
        refine ⟨.inl (n : Int), by rw [if_neg (by simp)], ?_⟩
        rw [Nat.sub_self] at h2
        unfold ext at h2
        rw [if_neg (by omega)] at h2
        exact h2

theorem F42_law (p : Panel) (ticks : Int) (l : List Signal) (door : Int) : Tot (F42 p ticks l door) (CutIs p ticks l door) := by
  unfold F42
  rw [F58_eq]
  simp only [Option.bind_some]
  by_cases h : err p ticks l = 0
  case neg =>
    rw [if_neg h, if_pos (by simp [h])]
    exact .pure (.inl ⟨h, rfl⟩)
  rw [if_pos h]
  obtain ⟨hp, ht, hL⟩ := err_zero h
  by_cases hd : 0 ≤ door ∧ door ≤ (p.Doors.length : Int) - 1
  case neg =>
    rw [if_neg hd, if_pos (by decide)]
    exact .pure (.inr (.inl ⟨h, hd, rfl⟩))
  rw [if_pos hd, if_neg (by decide)]
  by_cases h0 : ticks = 0
  · rw [if_pos (by simpa using h0)]
    exact .pure (.inr (.inr (.inl ⟨h, hd, h0, rfl⟩)))
  rw [if_neg (by simpa using h0)]
  obtain ⟨g, hg⟩ : ∃ g, p.Doors[door.toNat]? = some g := ⟨_, List.getElem?_eq_getElem (by omega)⟩
  obtain ⟨d, rfl⟩ : ∃ d : Nat, door = (d : Int) := ⟨door.toNat, by omega⟩
  simp only [Int.toNat_natCast] at hg
  obtain ⟨n, rfl⟩ : ∃ n : Nat, ticks = (n : Int) := ⟨ticks.toNat, by omega⟩
  have hn : n ≤ 1000 := by omega
  have h200 := hL.1
  have spec : ∀ c : Nat, c ≤ n → F61 fuel_ p (n : Int) l (d : Int) [] 0 (c : Int) = some (found [] c (ext p l d g n 0 c (0, false))) := fun c hc =>
    F61_spec hp hg (by omega) hn (fun x hx => (hL.2 x hx).good.k1) h200 c fuel_ 0 [] (by unfold fuel_; omega) (by omega) (by omega) (by simp) (by simp)
  have hi := lst_init (p := p) (l := l) (d := d) (g := g) n 0
  have hb := lst_bound (p := p) (l := l) (d := d) (g := g) n 0 (0, false)
  obtain ⟨E, hE⟩ := ext_ex (p := p) (l := l) (d := d) (g := g) n 0 (0, false) (by unfold never; omega)
  have fin : CutIs p (n : Int) l (d : Int) (E, 0) := .inr (.inr (.inr ⟨h, hd, h0, g, E, by simpa using hg, by simpa using hE, rfl⟩))
  refine Tot.eq (cnt?_le (by omega)) ?_
  refine Tot.bind _ (Tot.forN (fun i _ => ∀ c, c < i → ext p l d g n 0 c (0, false) = none) (fun r => r = (E, 0)) (fun c hc => by omega) ?_) ?_
  · intro i _ hi' hI
    rw [Int.toNat_natCast] at hi'
    rw [spec i (by omega)]
    simp only [Option.bind_some]
    cases he : ext p l d g n 0 i (0, false) with
    | some e =>
      have h1 := lst_le he
      have h2 : (lst p l d g n 0 (0, false)).toNat = i := by
        rcases Nat.lt_or_ge (lst p l d g n 0 (0, false)).toNat i with hlt | hge
        · rw [hI _ hlt] at hE; cases hE
        · omega
      rw [h2, he] at hE
      cases hE
      exact .pure rfl
    | none =>
      refine .pure fun c hc => ?_
      rcases Nat.lt_succ_iff_lt_or_eq.1 hc with h' | rfl
      · exact hI c h'
      · exact he
  · intro o ho
    refine Tot.onL ho (fun _ hI => ?_) (fun r hr => by rw [hr]; exact fin)
    rw [Int.toNat_natCast] at hI
    have h2 : (lst p l d g n 0 (0, false)).toNat = n := by
      rcases Nat.lt_or_ge (lst p l d g n 0 (0, false)).toNat n with hlt | hge
      · rw [hI _ hlt] at hE; cases hE
      · omega
    rw [h2] at hE
    rw [spec n (Nat.le_refl _), hE]
    exact .pure fin

theorem F13_law (p : Panel) (l : List Signal) (w : Law08_Where) : F13 p l w = some true := by
  suffices hh : Tot (F13 p l w) (fun r => r = true) by
    obtain ⟨r, e, rfl⟩ := hh; exact e
  unfold F13
  rw [F16_law]
  simp only [Option.bind_some]
  refine Tot.bind (Sum.elim (fun _ => True) (fun r => r = true)) ?_ ?_
  · exact Tot.ite (fun _ => Tot.ite (fun _ => .pure rfl) fun _ => .pure trivial) fun _ => .pure trivial
  intro o ho
  refine Tot.onL ho ?_ (fun r hr => hr)
  rintro _ _
  obtain ⟨r, e1, r1⟩ := F41_law p w.Ticks l w.Door
  obtain ⟨q, e2, q1⟩ := F42_law p w.Ticks l w.Door
  rw [e1, e2, CutIs.uniq r1 q1]
  simp only [Option.bind_some]
  rw [if_pos (by simp), F29_self]
  exact .pure rfl
end
end Go.Proofs.Ytfeomcdhhgeilaa.Pad
