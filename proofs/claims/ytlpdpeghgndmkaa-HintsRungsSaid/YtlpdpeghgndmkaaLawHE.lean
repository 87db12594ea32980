/- What a riddle must be: both checks agree. -/
import Derived.Test.YtlpdpeghgndmkaaLawHD
set_option linter.unusedVariables false
set_option linter.unusedSimpArgs false
namespace Go.Proofs.Ytlpdpeghgndmkaa.Pad
open Go
theorem ref01_CheckClue_eq {l : CodeLock} (hl : Lk l) (c : Clue) : fv_ l c = some (if df_ l c then 0 else 11) := by
  unfold fv_
  rw [oj_, hw_.2 hl, Option.bind_some, ref01_isClue_eq hl]
  cases df_ l c <;> rfl
theorem codes_CheckClue_eq (l : CodeLock) (c : Clue) : gd_ l c = some (if okL l then (if df_ l c then 0 else 11) else 10) := by
  unfold gd_
  rw [lp_, Option.bind_some]
  by_cases h : okL l = true
  · rw [h, li_ (hw_.1 h)]
    cases df_ l c <;> rfl
  · have h' : okL l = false := by simpa using h
    rw [h']; rfl
noncomputable def pb_ (l : CodeLock) (c : List Int) (q : Clue) : Bool := df_ l q && tr q c
theorem ref07_isAid_eq {l : CodeLock} (hl : Lk l) {c : List Int} (hk : cp_ l c = true) (q : Clue) : io_ l c q = some (pb_ l c q) := by
  unfold io_ pb_
  rw [ref01_CheckClue_eq hl, Option.bind_some]
  cases hq : df_ l q
  · rfl
  · rw [if_pos rfl, tr_ref hl hq hk]; rfl
noncomputable def okFit (l : CodeLock) (c : List Int) (q : Clue) : Bool := okL l && cp_ l c && pb_ l c q
theorem nt_ (l : CodeLock) (c : List Int) (q : Clue) : ((kp_ l q c).bind fun x3 => if x3.2 == 0 then some x3.1 else some false) = some (okFit l c q) := by
  unfold kp_ okFit pb_
  rw [codes_CheckClue_eq, ih_, Option.bind_some]
  by_cases h : okL l = true
  · rw [h]
    cases hq : df_ l q
    · simp
    · cases hk : cp_ l c
      · simp
      · rw [tr_holds (hw_.1 h) hq hk]; simp
  · have h' : okL l = false := by simpa using h
    rw [h']; rfl
noncomputable def okAt (r : Riddle) (i : Nat) : Bool := match r.Locks[i]?, r.Codes[i]?, r.Known[i]? with
  | some l, some c, some k => okL l && cp_ l c && decide (k.length ≤ 20) && k.all (pb_ l c)
  | _, _, _ => false
def okTie (r : Riddle) (t : Tie) : Bool := wi t.LockA 0 (r.Locks.length - 1) && wi t.LockB 0 (r.Locks.length - 1) && (t.LockA != t.LockB) && (match r.Locks[t.LockA.toNat]?, r.Locks[t.LockB.toNat]?, r.Codes[t.LockA.toNat]?, r.Codes[t.LockB.toNat]? with
  | some la, some lb, some ca, some cb => wi t.WheelA 0 (la.Wheels - 1) && wi t.WheelB 0 (lb.Wheels - 1) && decide (ca[t.WheelA.toNat]? = cb[t.WheelB.toNat]?)
  | _, _, _, _ => false)
noncomputable def okR (r : Riddle) : Bool := decide (1 ≤ r.Locks.length ∧ r.Locks.length ≤ 8 ∧ r.Codes.length = r.Locks.length ∧ r.Known.length = r.Locks.length ∧ r.Ties.length ≤ 10) && ((List.range r.Locks.length).all (okAt r) && r.Ties.all (okTie r))
theorem range_get {n j x : Nat} (h : (List.range n)[j]? = some x) : j < n ∧ x = j := by
  have h1 := lt_of_get? h
  rw [List.length_range] at h1
  rw [List.getElem?_range h1] at h
  exact ⟨h1, (Option.some.inj h).symm⟩
theorem all_here {α : Type} {l : List α} {p : α → Bool} {j : Nat} {x : α} (h : l[j]? = some x) (hp : p x = false) : l.all p = false := by
  rw [List.all_eq_false]; exact ⟨x, List.mem_of_getElem? h, by simp [hp]⟩
theorem all_upto {α : Type} {l : List α} {p : α → Bool} (h : ∀ (k : Nat) x, k < l.length → l[k]? = some x → p x = true) : l.all p = true := by
  rw [List.all_eq_true]
  intro x hx
  obtain ⟨k, hk⟩ := List.getElem?_of_mem hx
  exact h k x (lt_of_get? hk) hk
theorem whileO_all {α ρ : Type} {l : List α} {p : α → Bool} {r : ρ} {body : Int → Option (Int ⊕ (Int ⊕ ρ))}
    (h : ∀ (j : Nat) x, l[j]? = some x → body (j : Int) = some (if p x then .inl ((j + 1 : Nat) : Int) else .inr (.inr r))) (e : body (l.length : Int) = some (.inr (.inl (l.length : Int)))) :
    el_ body 0 = some (if l.all p then .inl (l.length : Int) else .inr r) := by
  have := jo_ (body := body) (fun j s => s = (j : Int) ∧ ∀ k x, k < j → l[k]? = some x → p x = true) (fun o => o = (if l.all p then .inl (l.length : Int) else .inr r)) l.length 0 0 ⟨rfl, fun k x hk _ => by omega⟩ (by
    rintro j s _ hj ⟨rfl, hI⟩
    obtain ⟨x, hx⟩ := bx_ (l := l) (i := j) (by omega)
    rw [h j x hx]
    cases hp : p x
    · refine .inr ⟨_, rfl, ?_⟩
      rw [all_here hx hp]; rfl
    · refine .inl ⟨_, rfl, rfl, fun k y hk hy => ?_⟩
      by_cases ek : k = j
      · subst ek; rw [hx] at hy; obtain rfl := Option.some.inj hy; exact hp
      · exact hI k y (by omega) hy) (by
    rintro s ⟨rfl, hI⟩
    rw [Nat.zero_add] at hI ⊢
    exact ⟨_, e, by rw [all_upto hI]; rfl⟩)
  obtain ⟨o, h1, rfl⟩ := this
  exact h1
theorem hints_tied_eq {r : Riddle} (hc : r.Codes.length = r.Locks.length) (h1 : r.Locks.length ≤ 8) (ha : (List.range r.Locks.length).all (okAt r) = true) (t : Tie) : jr_ r t = some (okTie r t) ∧
    ∀ (x : Option Unit), True := by
  refine ⟨?_, fun _ => trivial⟩
  have hat : ∀ i : Nat, i < r.Locks.length → ∃ l c, r.Locks[i]? = some l ∧ r.Codes[i]? = some c ∧ Lk l ∧ (c.length : Int) = l.Wheels := by
    intro i hi
    have := List.all_eq_true.1 ha i (List.mem_range.2 hi)
    unfold okAt at this
    obtain ⟨l, hl⟩ := bx_ hi
    obtain ⟨c, hcc⟩ := bx_ (l := r.Codes) (i := i) (by omega)
    rw [hl, hcc] at this
    cases hk : r.Known[i]? with
    | none => rw [hk] at this; cases this
    | some k =>
      rw [hk] at this
      simp only [Bool.and_eq_true] at this
      exact ⟨l, c, hl, hcc, hw_.1 this.1.1.1, (fh_.1 this.1.1.2).1⟩
  unfold jr_ okTie
  rw [ea_ (by omega) (by omega), cy_, Option.bind_some, cy_]
  cases hA : wi t.LockA 0 (r.Locks.length - 1)
  · rfl
  cases hB : wi t.LockB 0 (r.Locks.length - 1)
  · rfl
  obtain ⟨a1, a2⟩ := ek_.1 hA
  obtain ⟨b1, b2⟩ := ek_.1 hB
  obtain ⟨la, ca, e1, e2, e3, e4⟩ := hat t.LockA.toNat (by omega)
  obtain ⟨lb, cb, f1, f2, f3, f4⟩ := hat t.LockB.toNat (by omega)
  rw [fr_ a1 e1, fr_ b1 f1, fr_ a1 e2, fr_ b1 f2, e1, f1, e2, f2]
  simp only [Option.bind_some, e3.ww, f3.ww, cy_]
  by_cases hab : t.LockA = t.LockB
  · simp [hab]
  rw [if_neg (by simp), if_neg (by simp), if_neg (by simpa using hab)]
  have hne : (t.LockA != t.LockB) = true := by simpa using hab
  rw [hne]
  cases hwA : wi t.WheelA 0 (la.Wheels - 1)
  · rfl
  cases hwB : wi t.WheelB 0 (lb.Wheels - 1)
  · rfl
  obtain ⟨p1, p2⟩ := ek_.1 hwA
  obtain ⟨q1, q2⟩ := ek_.1 hwB
  obtain ⟨x, hx, hx'⟩ := at?_int (l := ca) (i := t.WheelA) p1 (by omega)
  obtain ⟨y, hy, hy'⟩ := at?_int (l := cb) (i := t.WheelB) q1 (by omega)
  rw [hx, hy, hx', hy']
  simp
  by_cases hxy : x = y <;> simp [hxy]
theorem ref07_ties_eq {r : Riddle} (hc : r.Codes.length = r.Locks.length) (h1 : r.Locks.length ≤ 8) (ha : (List.range r.Locks.length).all (okAt r) = true) :
   forN (σ := (Unit)) (ρ := Int) (fun i2 s7 =>
     (at? r.Ties (i2 : Int)).bind fun x174 =>
     (db_ x174.LockA 0 (w64 ((r.Locks.length : Int) - 1))).bind fun x177 =>
     if !x177 then
     (some (Sum.inr 70))
     else
     ((db_ x174.LockB 0 (w64 ((r.Locks.length : Int) - 1))).bind fun x178 =>
     if !x178 then
     (some (Sum.inr 70))
     else
     (if x174.LockA == x174.LockB then
     (some (Sum.inr 70))
     else
     ((at? r.Locks x174.LockA).bind fun x179 =>
     (db_ x174.WheelA 0 (w64 (x179.Wheels - 1))).bind fun x180 =>
     if !x180 then
     (some (Sum.inr 70))
     else
     ((at? r.Locks x174.LockB).bind fun x181 =>
     (db_ x174.WheelB 0 (w64 (x181.Wheels - 1))).bind fun x182 =>
     if !x182 then
     (some (Sum.inr 70))
     else
     ((at? r.Codes x174.LockA).bind fun x183 =>
     (at? x183 x174.WheelA).bind fun x184 =>
     (at? r.Codes x174.LockB).bind fun x185 =>
     (at? x185 x174.WheelB).bind fun x186 =>
     if x184 != x186 then
     (some (Sum.inr 70))
     else
     (some (Sum.inl ())))))))) r.Ties.length 0 () = some (if r.Ties.all (okTie r) then .inl () else .inr 70) := by
  refine forN_all (fun j t ht => ?_)
  have hti := (hints_tied_eq hc h1 ha t).1
  unfold jr_ at hti
  rw [cf_ ht, Option.bind_some]
  simp only [nc_, cy_, Option.bind_some] at hti ⊢
  by_cases c1 : wi t.LockA 0 (w64 ((r.Locks.length : Int) - 1)) = true
  rotate_left
  · rw [if_pos (by simpa using c1)] at hti ⊢; rw [← Option.some.inj hti]; rfl
  rw [if_neg (by simpa using c1)] at hti ⊢
  by_cases c2 : wi t.LockB 0 (w64 ((r.Locks.length : Int) - 1)) = true
  rotate_left
  · rw [if_pos (by simpa using c2)] at hti ⊢; rw [← Option.some.inj hti]; rfl
  rw [if_neg (by simpa using c2)] at hti ⊢
  by_cases c3 : t.LockA = t.LockB
  · rw [if_pos (by simpa using c3)] at hti ⊢; rw [← Option.some.inj hti]; rfl
  rw [if_neg (by simpa using c3)] at hti ⊢
  obtain ⟨la, e1, hti⟩ := bnd hti
  rw [e1, Option.bind_some]
  by_cases c4 : wi t.WheelA 0 (w64 (la.Wheels - 1)) = true
  rotate_left
  · rw [if_pos (by simpa using c4)] at hti ⊢; rw [← Option.some.inj hti]; rfl
  rw [if_neg (by simpa using c4)] at hti ⊢
  obtain ⟨lb, e2, hti⟩ := bnd hti
  rw [e2, Option.bind_some]
  by_cases c5 : wi t.WheelB 0 (w64 (lb.Wheels - 1)) = true
  rotate_left
  · rw [if_pos (by simpa using c5)] at hti ⊢; rw [← Option.some.inj hti]; rfl
  rw [if_neg (by simpa using c5)] at hti ⊢
  obtain ⟨ca, e3, hti⟩ := bnd hti
  obtain ⟨x, e4, hti⟩ := bnd hti
  obtain ⟨cb, e5, hti⟩ := bnd hti
  obtain ⟨y, e6, hti⟩ := bnd hti
  rw [e3, Option.bind_some, e4, Option.bind_some, e5, Option.bind_some, e6, Option.bind_some, ← Option.some.inj hti]
  by_cases hxy : x = y <;> simp [hxy]
theorem okAt_some {r : Riddle} {i : Nat} {l : CodeLock} {c : List Int} {k : List Clue} (h1 : r.Locks[i]? = some l) (h2 : r.Codes[i]? = some c) (h3 : r.Known[i]? = some k) : okAt r i = (okL l && cp_ l c && decide (k.length ≤ 20) && k.all (pb_ l c)) := by
  unfold okAt; rw [h1, h2, h3]
theorem hints_Check_eq (r : Riddle) : ki_ r = some (if okR r then 0 else 70) := by
  unfold ki_ okR
  rw [cy_, Option.bind_some]
  by_cases h1 : 1 ≤ r.Locks.length ∧ r.Locks.length ≤ 8
  rotate_left
  · have : wi (r.Locks.length : Int) 1 8 = false := by unfold wi; simp; omega
    rw [this, if_pos (show (!false) = true from rfl), decide_eq_false (by omega)]; rfl
  have hw : wi (r.Locks.length : Int) 1 8 = true := ek_.2 (by omega)
  rw [hw, if_neg (by simp)]
  by_cases h2 : r.Codes.length = r.Locks.length
  rotate_left
  · rw [if_pos (by simp; omega), decide_eq_false (by omega)]; rfl
  rw [if_neg (by simp [h2])]
  by_cases h3 : r.Known.length = r.Locks.length
  rotate_left
  · rw [if_pos (by simp; omega), decide_eq_false (by omega)]; rfl
  rw [if_neg (by simp [h3])]
  by_cases h4 : r.Ties.length ≤ 10
  rotate_left
  · rw [if_pos (by simp; omega), decide_eq_false (by omega)]; rfl
  rw [if_neg (by simp; omega), decide_eq_true ⟨h1.1, h1.2, h2, h3, h4⟩]
  have hloop := forN_all (l := List.range r.Locks.length) (p := okAt r) (r := (70 : Int)) (body := fun i1 s1 =>
     (at? r.Locks (i1 : Int)).bind fun x30 =>
     (at? r.Codes (i1 : Int)).bind fun x34 =>
     (dq_ x30 x34).bind fun x35 =>
     if x35 != 0 then
     (some (Sum.inr 70))
     else
     ((at? r.Known (i1 : Int)).bind fun x36 =>
     if decide (20 < (x36.length : Int)) then
     (some (Sum.inr 70))
     else
     ((at? r.Known (i1 : Int)).bind fun x37 =>
     (cg_ x37 (fun x0_ => ie_ x0_ (r) ((i1 : Int)))).bind fun x38 =>
     if x38 then
     (some (Sum.inr 70))
     else
     (some (Sum.inl ()))))) (by
    intro j x hx
    obtain ⟨hj, rfl⟩ := range_get hx
    obtain ⟨l, hl⟩ := bx_ hj
    obtain ⟨c, hc⟩ := bx_ (l := r.Codes) (i := x) (by omega)
    obtain ⟨k, hk⟩ := bx_ (l := r.Known) (i := x) (by omega)
    rw [okAt_some hl hc hk, cf_ hl, cf_ hc, cf_ hk]
    simp only [Option.bind_some]
    rw [ih_, Option.bind_some]
    cases e1 : okL l
    · rfl
    cases e2 : cp_ l c
    · rfl
    rw [if_neg (by simp)]
    by_cases e3 : k.length ≤ 20
    rotate_left
    · rw [if_pos (by simp; omega), decide_eq_false e3]; rfl
    rw [if_neg (by simp; omega), decide_eq_true e3, any_clue (p := fun q => !pb_ l c q) (by
      intro q _
      unfold ie_ jt_
      rw [cf_ hl, Option.bind_some, cf_ hc, Option.bind_some, nt_]
      simp [okFit, e1, e2]), Option.bind_some, List.all_eq_not_any_not]
    cases k.any fun q => !pb_ l c q <;> rfl)
  rw [List.length_range] at hloop
  rw [show (forN (σ := Unit) (ρ := Int) _ r.Locks.length 0 ()) = _ from hloop, Option.bind_some]
  cases ha : (List.range r.Locks.length).all (okAt r)
  · rfl
  simp only [if_true, onL]
  rw [any_tie (p := fun t => !okTie r t) (fun t _ => by unfold jn_; rw [(hints_tied_eq h2 h1.2 ha t).1]; rfl), Option.bind_some, List.all_eq_not_any_not]
  cases r.Ties.any fun t => !okTie r t <;> rfl
theorem ref07_Check_eq (r : Riddle) : kd_ r = some (if okR r then 0 else 70) := by
  unfold kd_ okR
  rw [nc_, Option.bind_some]
  by_cases h1 : 1 ≤ r.Locks.length ∧ r.Locks.length ≤ 8
  rotate_left
  · have : wi (r.Locks.length : Int) 1 8 = false := by unfold wi; simp; omega
    rw [this, if_pos (show (!false) = true from rfl), decide_eq_false (by omega)]; rfl
  have hw : wi (r.Locks.length : Int) 1 8 = true := ek_.2 (by omega)
  rw [hw, if_neg (by simp)]
  by_cases h2 : r.Codes.length = r.Locks.length
  rotate_left
  · rw [if_pos (by simp; omega), decide_eq_false (by omega)]; rfl
  rw [if_neg (by simp [h2])]
  by_cases h3 : r.Known.length = r.Locks.length
  rotate_left
  · rw [if_pos (by simp; omega), decide_eq_false (by omega)]; rfl
  rw [if_neg (by simp [h3])]
  by_cases h4 : r.Ties.length ≤ 10
  rotate_left
  · rw [if_pos (by simp; omega), decide_eq_false (by omega)]; rfl
  rw [if_neg (by simp; omega), decide_eq_true ⟨h1.1, h1.2, h2, h3, h4⟩]
  have hloop := forN_all (l := List.range r.Locks.length) (p := okAt r) (r := (70 : Int)) (body := fun i1 s4 =>
     (at? r.Locks (i1 : Int)).bind fun x106 =>
     (at? r.Codes (i1 : Int)).bind fun x107 =>
     (es_ x106 x107).bind fun x108 =>
     if x108 != 0 then
     (some (Sum.inr 70))
     else
     ((at? r.Known (i1 : Int)).bind fun x109 =>
     if decide (20 < (x109.length : Int)) then
     (some (Sum.inr 70))
     else
     ((el_ (σ := (Int)) (ρ := (Int) ⊕ (Unit ⊕ Int)) (fun s5 =>
     (at? r.Known (i1 : Int)).bind fun x129 =>
     if decide (s5 < (x129.length : Int)) then
     ((at? r.Locks (i1 : Int)).bind fun x130 =>
     (at? r.Codes (i1 : Int)).bind fun x131 =>
     (at? r.Known (i1 : Int)).bind fun x132 =>
     (at? x132 s5).bind fun x133 =>
     (io_ x130 x131 x133).bind fun x134 =>
     if !x134 then
     (some (Sum.inr (Sum.inr (Sum.inr 70))))
     else
     (some (Sum.inl (w64 (s5 + 1)))))
     else
     (some (Sum.inr (Sum.inl s5)))) 0).bind fun o10 => onL o10 fun out5 =>
     some (Sum.inl ())))) (by
    intro j x hx
    obtain ⟨hj, rfl⟩ := range_get hx
    obtain ⟨l, hl⟩ := bx_ hj
    obtain ⟨c, hc⟩ := bx_ (l := r.Codes) (i := x) (by omega)
    obtain ⟨k, hk⟩ := bx_ (l := r.Known) (i := x) (by omega)
    rw [okAt_some hl hc hk, cf_ hl, cf_ hc, cf_ hk]
    simp only [Option.bind_some]
    rw [ref01_CheckCode_eq, Option.bind_some]
    cases e1 : okL l
    · rfl
    cases e2 : cp_ l c
    · rfl
    rw [if_neg (by simp)]
    by_cases e3 : k.length ≤ 20
    rotate_left
    · rw [if_pos (by simp; omega), decide_eq_false e3]; rfl
    rw [if_neg (by simp; omega), decide_eq_true e3, whileO_all (l := k) (p := pb_ l c) (r := (Sum.inr 70 : Unit ⊕ Int)) (by
      intro i q hq
      have hi := lt_of_get? hq
      rw [if_pos (by simpa using hi), cf_ hq, Option.bind_some, ref07_isAid_eq (hw_.1 e1) e2, Option.bind_some, ea_ (by omega) (by omega)]
      cases pb_ l c q <;> rfl) (by rw [if_neg (by simp)]), Option.bind_some]
    cases k.all (pb_ l c) <;> rfl)
  rw [List.length_range] at hloop
  rw [show (forN (σ := Unit) (ρ := Int) _ r.Locks.length 0 ()) = _ from hloop, Option.bind_some]
  cases ha : (List.range r.Locks.length).all (okAt r)
  · rfl
  simp only [if_true, onL]
  rw [show (forN (σ := Unit) (ρ := Int) _ r.Ties.length 0 ()) = _ from ref07_ties_eq h2 h1.2 ha, Option.bind_some]
  cases r.Ties.all (okTie r) <;> rfl
structure Good (r : Riddle) : Prop where
  n1 : 1 ≤ r.Locks.length
  n8 : r.Locks.length ≤ 8
  hc : r.Codes.length = r.Locks.length
  hk : r.Known.length = r.Locks.length
  ht : r.Ties.length ≤ 10
  lk : ∀ (i : Nat) l c k, r.Locks[i]? = some l → r.Codes[i]? = some c → r.Known[i]? = some k → Lk l ∧ cp_ l c = true ∧ k.length ≤ 20 ∧ (∀ q ∈ k, df_ l q = true) ∧ ∀ q ∈ k, tr q c = true
  ti : ∀ t ∈ r.Ties, okTie r t = true
theorem okR_iff {r : Riddle} : okR r = true ↔ Good r := by
  unfold okR
  rw [Bool.and_eq_true, Bool.and_eq_true, decide_eq_true_iff, List.all_eq_true, List.all_eq_true]
  constructor
  · rintro ⟨⟨a, b, c, d, e⟩, f, g⟩
    refine ⟨a, b, c, d, e, fun i l co k h1 h2 h3 => ?_, g⟩
    have := f i (List.mem_range.2 (lt_of_get? h1))
    rw [okAt_some h1 h2 h3] at this
    simp only [Bool.and_eq_true, decide_eq_true_iff, List.all_eq_true, pb_] at this
    exact ⟨hw_.1 this.1.1.1, this.1.1.2, this.1.2, fun q hq => (this.2 q hq).1, fun q hq => (this.2 q hq).2⟩
  · intro h
    refine ⟨⟨h.n1, h.n8, h.hc, h.hk, h.ht⟩, fun i hi => ?_, h.ti⟩
    have hi := List.mem_range.1 hi
    have hc := h.hc; have hk := h.hk
    obtain ⟨l, h1⟩ := bx_ hi
    obtain ⟨c, h2⟩ := bx_ (l := r.Codes) (i := i) (by omega)
    obtain ⟨k, h3⟩ := bx_ (l := r.Known) (i := i) (by omega)
    obtain ⟨a, b, c', d, e⟩ := h.lk i l c k h1 h2 h3
    rw [okAt_some h1 h2 h3]
    simp only [Bool.and_eq_true, decide_eq_true_iff, List.all_eq_true, pb_]
    exact ⟨⟨⟨hw_.2 a, b⟩, c'⟩, fun q hq => ⟨d q hq, e q hq⟩⟩
end Go.Proofs.Ytlpdpeghgndmkaa.Pad
