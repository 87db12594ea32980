/- Rooms, and the reference's worlds. -/
import Derived.Test.YtlpdpeghgndmkaaGreatLawZE
set_option linter.unusedVariables false
set_option linter.unusedSimpArgs false
namespace Go.Proofs.YtlpdpeghgndmkaaGreat.Pad
open Go
def chkW : Nat → List Nat → Bool
  | _, [] => true
  | s, x :: xs => if 20000 < s * x then false else chkW (s * x) xs
theorem forN_chk {ρ : Type} {lens : List Nat} {e : ρ} {body : Nat → Int → Option (Int ⊕ ρ)}
    (h : ∀ j x (s : Nat), lens[j]? = some x → s ≤ 20000 → body j (s : Int) = some (if 20000 < s * x then .inr e else .inl ((s * x : Nat) : Int))) : ∀ (k i s : Nat), i + k = lens.length → s ≤ 20000 →
    ∃ o, forN body k i (s : Int) = some o ∧ (if chkW s (lens.drop i) then ∃ t, o = .inl t else o = .inr e)
  | 0, i, s, hk, hs => ⟨_, rfl, by rw [List.drop_of_length_le (by omega)]; simp [chkW]⟩
  | k + 1, i, s, hk, hs => by
    obtain ⟨x, hx⟩ := bw_ (l := lens) (i := i) (by omega)
    simp only [forN]
    have hi : i < lens.length := by omega
    have hxe : lens[i] = x := by rw [List.getElem?_eq_getElem hi] at hx; exact Option.some.inj hx
    rw [h i x s hx hs, List.drop_eq_getElem_cons hi, hxe, chkW]
    by_cases hb : 20000 < s * x
    · rw [if_pos hb, if_pos hb]
      exact ⟨_, rfl, by simp⟩
    · rw [if_neg hb, if_neg hb]
      exact forN_chk h k (i + 1) (s * x) (by omega) (by omega)
noncomputable def ez_ (r : Riddle) : List (List (List Int)) := List.zipWith rdg r.Locks r.Known
theorem zip_get {α β γ : Type} {f : α → β → γ} {a : List α} {b : List β} {i : Nat} {x : α} {y : β} (h1 : a[i]? = some x) (h2 : b[i]? = some y) : (List.zipWith f a b)[i]? = some (f x y) := by
  rw [List.getElem?_zipWith, h1, h2]
theorem gz_ {r : Riddle} (g : Good r) : (ez_ r).length = r.Locks.length := by
  unfold ez_; rw [List.length_zipWith, g.hk, Nat.min_self]
theorem Good.at_ {r : Riddle} (g : Good r) {i : Nat} (hi : i < r.Locks.length) : ∃ l c k, r.Locks[i]? = some l ∧ r.Codes[i]? = some c ∧ r.Known[i]? = some k ∧ Lk l ∧ co_ l c = true ∧ k.length ≤ 20 ∧ (∀ q ∈ k, db_ l q = true) ∧ (∀ q ∈ k, tr q c = true) ∧ (ez_ r)[i]? = some (rdg l k) := by
  have hc := g.hc; have hk := g.hk
  obtain ⟨l, h1⟩ := bw_ hi
  obtain ⟨c, h2⟩ := bw_ (l := r.Codes) (i := i) (by omega)
  obtain ⟨k, h3⟩ := bw_ (l := r.Known) (i := i) (by omega)
  obtain ⟨a, b, d, e, f⟩ := g.lk i l c k h1 h2 h3
  exact ⟨l, c, k, h1, h2, h3, a, b, d, e, f, zip_get h1 h3⟩
noncomputable def lens (r : Riddle) : List Nat := (ez_ r).map List.length
noncomputable def fitW (r : Riddle) : Bool := chkW 1 (lens r)
noncomputable def st (r : Riddle) : Int := if okR r then (if fitW r then 0 else 2) else 70
theorem mul_bd {s x : Nat} (hs : s ≤ 20000) (hx : x ≤ 10000) : s * x ≤ 200000000 := Nat.le_trans (Nat.mul_le_mul hs hx) (by omega)
theorem chk_body {ρ : Type} {s x : Nat} {e : ρ} (hs : s ≤ 20000) (hx : x ≤ 10000) : (if decide (20000 < (w64 ((s : Int) * (x : Int)))) then (some (Sum.inr e)) else (some (Sum.inl (w64 ((s : Int) * (x : Int)))))) = some (if 20000 < s * x then (Sum.inr e : Int ⊕ ρ) else .inl ((s * x : Nat) : Int)) := by
  have hm := mul_bd hs hx
  rw [← Int.natCast_mul, ee_ (by omega) (by omega)]
  by_cases h : 20000 < s * x
  · rw [if_pos h, if_pos (decide_eq_true (by omega))]
  · rw [if_neg h, if_neg (fun hh => h (by have := of_decide_eq_true hh; omega))]
theorem fd_ (r : Riddle) : dz_ r = some (if st r = 0 then ⟨some ⟨r, ez_ r⟩⟩ else ⟨none⟩, st r) := by
  unfold dz_ st
  rw [hints_Check_eq, Option.bind_some]
  by_cases h : okR r = true
  rotate_left
  · have h' : okR r = false := by simpa using h
    rw [h']; rfl
  have g := okR_iff.1 h
  rw [h, if_neg (by simp)]
  have hn := gz_ g
  obtain ⟨o, h1, h2⟩ := forN_chk (lens := lens r) (e := ((⟨none⟩ : ORef Hints_room), (2 : Int))) (body := fun i1 s1 =>
     (at? r.Locks (i1 : Int)).bind fun x11 =>
     (at? r.Known (i1 : Int)).bind fun x12 =>
     (ja_ x11 x12).bind fun x13 =>
     if x13.2 != 0 then
     (some (Sum.inr ((⟨none⟩ : ORef Hints_room), x13.2)))
     else
     (if decide (20000 < (w64 (s1 * x13.1))) then
     (some (Sum.inr ((⟨none⟩ : ORef Hints_room), 2)))
     else
     (some (Sum.inl (w64 (s1 * x13.1)))))) (by
    intro j x s hx hs
    have hj : j < r.Locks.length := by have := lt_of_get? hx; unfold lens at this; rw [List.length_map, hn] at this; exact this
    obtain ⟨l, c, k, e1, e2, e3, a, b, d, e, f, z⟩ := g.at_ hj
    unfold lens at hx
    rw [List.getElem?_map, z] at hx
    obtain rfl := Option.some.inj hx
    rw [ce_ e1, Option.bind_some, ce_ e3, Option.bind_some, codes_Count_eq a d e, Option.bind_some, if_neg (by simp)]
    exact chk_body hs (rdg_bd a k)) (lens r).length 0 1 (by omega) (by omega)
  rw [show (lens r).length = r.Locks.length by unfold lens; rw [List.length_map, hn]] at h1
  rw [show (forN (σ := Int) (ρ := ORef Hints_room × Int) _ r.Locks.length 0 1) = some o from h1, Option.bind_some]
  unfold fitW
  rw [List.drop_zero] at h2
  cases hc : chkW 1 (lens r)
  · rw [hc] at h2; subst h2; rfl
  rw [hc] at h2
  obtain ⟨t, rfl⟩ := h2
  have hloop := kj_ (k := r.Locks.length) (fun j => (ez_ r).take j) (body := fun i2 s3 =>
     (at? r.Locks (i2 : Int)).bind fun x26 =>
     (at? r.Known (i2 : Int)).bind fun x27 =>
     (fh_ x26 x27).bind fun x28 =>
     (push? s3 ([x28] : List (List (List Int)))).bind fun x29 =>
     some x29) (by
    intro j hj
    obtain ⟨l, c, k, e1, e2, e3, a, b, d, e, f, z⟩ := g.at_ hj
    have := g.n8
    rw [ce_ e1, Option.bind_some, ce_ e3, Option.bind_some, hints_readings_eq a d e, Option.bind_some, er_ (by rw [List.length_take, List.length_singleton]; omega), Option.bind_some, mw_ z])
  simp only [onL]
  rw [show (forS (σ := List (List (List Int))) _ r.Locks.length 0 []) = _ from hloop, Option.bind_some, ← hn, List.take_length]
  rfl
def gu_ {α : Type} : List (List α) → List (List α)
  | [] => [[]]
  | a :: bs => a.flatMap fun x => (gu_ bs).map (x :: ·)
theorem prodL_len {α : Type} : ∀ (bs : List (List α)), (gu_ bs).length = (bs.map List.length).foldr (· * ·) 1
  | [] => rfl
  | a :: bs => by
    unfold gu_
    rw [flat_len (m := (gu_ bs).length) _ (fun x _ => List.length_map _), prodL_len bs]; rfl
theorem hz_ {α : Type} : ∀ {bs : List (List α)} {w : List α}, w ∈ gu_ bs ↔ w.length = bs.length ∧ ∀ (i : Nat) a x, bs[i]? = some a → w[i]? = some x → x ∈ a
  | [], w => by
    simp [gu_, List.length_eq_zero_iff]
  | a :: bs, w => by
    unfold gu_
    rw [List.mem_flatMap]
    constructor
    · rintro ⟨x, hx, hw⟩
      obtain ⟨v, hv, rfl⟩ := List.mem_map.1 hw
      obtain ⟨h1, h2⟩ := hz_.1 hv
      refine ⟨by simp [h1], fun i b y hb hy => ?_⟩
      cases i with
      | zero => simp at hb hy; subst hb; subst hy; exact hx
      | succ i => exact h2 i b y (by simpa using hb) (by simpa using hy)
    · rintro ⟨h1, h2⟩
      cases w with
      | nil => simp at h1
      | cons x v =>
        refine ⟨x, h2 0 a x rfl rfl, List.mem_map.2 ⟨v, hz_.2 ⟨by simpa using h1, fun i b y hb hy => h2 (i + 1) b y (by simpa using hb) (by simpa using hy)⟩, rfl⟩⟩
theorem chkW_prod : ∀ (s : Nat) (xs : List Nat), s ≤ 20000 → chkW s xs = true → s * xs.foldr (· * ·) 1 ≤ 20000
  | s, [], hs, _ => by simpa using hs
  | s, x :: xs, hs, h => by
    unfold chkW at h
    by_cases hb : 20000 < s * x
    · rw [if_pos hb] at h; cases h
    · rw [if_neg hb] at h
      have := chkW_prod (s * x) xs (by omega) h
      rw [List.foldr_cons, ← Nat.mul_assoc]; exact this
def tieHolds (w : List (List Int)) (t : Tie) : Bool := match w[t.LockA.toNat]?, w[t.LockB.toNat]? with
  | some a, some b => decide (a[t.WheelA.toNat]? = b[t.WheelB.toNat]?)
  | _, _ => false
noncomputable def Wc (r : Riddle) : List (List (List Int)) := (gu_ (ez_ r)).filter fun w => r.Ties.all (tieHolds w)
theorem world_at {r : Riddle} (g : Good r) {w : List (List Int)} (hw : w ∈ gu_ (ez_ r)) {i : Nat} (hi : i < r.Locks.length) : ∃ l c, r.Locks[i]? = some l ∧ w[i]? = some c ∧ Lk l ∧ co_ l c = true := by
  obtain ⟨h1, h2⟩ := hz_.1 hw
  have hn := gz_ g
  obtain ⟨l, c, k, e1, e2, e3, a, b, d, e, f, z⟩ := g.at_ hi
  obtain ⟨x, hx⟩ := bw_ (l := w) (i := i) (by omega)
  exact ⟨l, x, e1, hx, a, ((rdg_mem a).1 (h2 i _ x z hx)).1⟩
structure TieAt (r : Riddle) (t : Tie) (la lb : CodeLock) : Prop where
  a0 : 0 ≤ t.LockA
  a1 : t.LockA < r.Locks.length
  b0 : 0 ≤ t.LockB
  b1 : t.LockB < r.Locks.length
  ea : r.Locks[t.LockA.toNat]? = some la
  eb : r.Locks[t.LockB.toNat]? = some lb
  wa0 : 0 ≤ t.WheelA
  wa1 : t.WheelA < la.Wheels
  wb0 : 0 ≤ t.WheelB
  wb1 : t.WheelB < lb.Wheels
theorem okTie_at {r : Riddle} {t : Tie} (h : okTie r t = true) : (∃ la lb, TieAt r t la lb) ∧ tieHolds r.Codes t = true := by
  unfold okTie at h
  simp only [Bool.and_eq_true] at h
  obtain ⟨⟨⟨h1, h2⟩, h3⟩, h4⟩ := h
  obtain ⟨a0, a1⟩ := ey_.1 h1
  obtain ⟨b0, b1⟩ := ey_.1 h2
  unfold tieHolds
  cases e1 : r.Locks[t.LockA.toNat]? <;> rw [e1] at h4 <;> try cases h4
  cases e2 : r.Locks[t.LockB.toNat]? <;> rw [e2] at h4 <;> try cases h4
  cases e3 : r.Codes[t.LockA.toNat]? <;> rw [e3] at h4 <;> try cases h4
  cases e4 : r.Codes[t.LockB.toNat]? <;> rw [e4] at h4 <;> try cases h4
  rename_i la lb ca cb
  simp only [Bool.and_eq_true] at h4
  obtain ⟨⟨w1, w2⟩, w3⟩ := h4
  obtain ⟨p0, p1⟩ := ey_.1 w1
  obtain ⟨q0, q1⟩ := ey_.1 w2
  exact ⟨⟨la, lb, a0, by omega, b0, by omega, e1, e2, p0, by omega, q0, by omega⟩, w3⟩
theorem fit_bd {r : Riddle} (hf : fitW r = true) : (gu_ (ez_ r)).length ≤ 20000 := by
  have := chkW_prod 1 (lens r) (by omega) hf
  rw [prodL_len]
  simpa [lens] using this
theorem mx_ {r : Riddle} (h : st r = 0) : Good r ∧ fitW r = true := by
  unfold st at h
  cases ho : okR r
  · rw [ho] at h; simp at h
  · cases hf : fitW r
    · rw [ho, hf] at h; simp at h
    · exact ⟨okR_iff.1 ho, rfl⟩
end Go.Proofs.YtlpdpeghgndmkaaGreat.Pad
