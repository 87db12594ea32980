/- The readings of a lock's clues: all that list or count them agree. -/
import Derived.Test.YtlpdpeghgndmkaaGreatLawZB
set_option linter.unusedVariables false
set_option linter.unusedSimpArgs false
namespace Go.Proofs.YtlpdpeghgndmkaaGreat.Pad
open Go
theorem kb_ {σ : Type} {body : Nat → σ → Option σ} (F : Nat → σ) {k : Nat} (h : ∀ j, j < k → body j (F j) = some (F (j + 1))) : forS body k 0 (F 0) = some (F k) := by
  have := Tot.forS (body := body) (k := k) (s := F 0) (fun j s => s = F j) rfl (fun j s hj e => by subst e; exact ⟨_, h j hj, rfl⟩)
  obtain ⟨s, h1, rfl⟩ := this
  exact h1
theorem whileO_ix {σ ρ : Type} {body : σ → Option (σ ⊕ ρ)} (F : Nat → σ) {n : Nat} {r : ρ} (h : ∀ j, j < n → body (F j) = some (.inl (F (j + 1)))) (e : body (F n) = some (.inr r)) : er_ body (F 0) = some r := by
  have := lf_ (body := body) (fun j s => s = F j) (fun x => x = r) n 0 (F 0) rfl (fun j s _ hj q => by subst q; exact .inl ⟨_, h j (by omega), rfl⟩) (fun s q => by subst q; rw [Nat.zero_add]; exact ⟨_, e, rfl⟩)
  obtain ⟨x, h1, rfl⟩ := this
  exact h1
theorem forN_from {σ ρ : Type} {body : Nat → σ → Option (σ ⊕ ρ)} (F : Nat → σ) : ∀ (k i : Nat), (∀ j, i ≤ j → j < i + k → body j (F j) = some (.inl (F (j + 1)))) → forN body k i (F i) = some (.inl (F (i + k)))
  | 0, i, _ => rfl
  | k + 1, i, h => by
    simp only [forN]
    rw [h i (Nat.le_refl _) (by omega)]
    have := forN_from F k (i + 1) (fun j a b => h j (by omega) (by omega))
    rw [show i + (k + 1) = i + 1 + k by omega]
    exact this
theorem forN_ix {σ ρ : Type} {body : Nat → σ → Option (σ ⊕ ρ)} (F : Nat → σ) {k : Nat} (h : ∀ j, j < k → body j (F j) = some (.inl (F (j + 1)))) : forN body k 0 (F 0) = some (.inl (F k)) := by
  have := forN_from (body := body) F k 0 (fun j _ hj => h j (by omega))
  rwa [Nat.zero_add] at this
theorem forN_all_from {α ρ : Type} {body : Nat → Unit → Option (Unit ⊕ ρ)} {p : α → Bool} {r : ρ} {l : List α} : ∀ (k i : Nat), i + k = l.length → (∀ j x, l[j]? = some x → body j () = some (if p x then .inl () else .inr r)) →
    forN body k i () = some (if (l.drop i).all p then .inl () else .inr r)
  | 0, i, e, _ => by
    rw [List.drop_of_length_le (by omega)]; rfl
  | k + 1, i, e, h => by
    have hi : i < l.length := by omega
    simp only [forN]
    rw [h i l[i] (List.getElem?_eq_getElem hi), List.drop_eq_getElem_cons hi, List.all_cons]
    cases hp : p l[i]
    · rfl
    · simpa using forN_all_from k (i + 1) (by omega) h
theorem nq_ {α ρ : Type} {body : Nat → Unit → Option (Unit ⊕ ρ)} {p : α → Bool} {r : ρ} {l : List α} (h : ∀ j x, l[j]? = some x → body j () = some (if p x then .inl () else .inr r)) : forN body l.length 0 () = some (if l.all p then .inl () else .inr r) := by
  simpa using forN_all_from (l := l) (p := p) (r := r) l.length 0 (by omega) h
theorem lt_of_get? {α : Type} {l : List α} {i : Nat} {x : α} (h : l[i]? = some x) : i < l.length := (List.getElem?_eq_some_iff.1 h).1
theorem cf_ {α : Type} {l : List α} {i : Nat} {x : α} (h : l[i]? = some x) : at? l (i : Int) = some x := by rw [pc_, h]
theorem nu_ {α : Type} {l : List α} {j : Nat} {x : α} (h : l[j]? = some x) : l.take (j + 1) = l.take j ++ [x] := by
  rw [List.take_add_one, h]; rfl
theorem foldlS {α β : Type} {f : β → α → β} {b : β} {l : List α} {j : Nat} {x : α} (h : l[j]? = some x) : (l.take (j + 1)).foldl f b = f ((l.take j).foldl f b) x := by
  rw [nu_ h, List.foldl_append]; rfl
theorem mapS {α β : Type} {f : α → β} {l : List α} {j : Nat} {x : α} (h : l[j]? = some x) : (l.take (j + 1)).map f = (l.take j).map f ++ [f x] := by
  rw [nu_ h, List.map_append]; rfl
theorem filterS {α : Type} {p : α → Bool} {l : List α} {j : Nat} {x : α} (h : l[j]? = some x) : (l.take (j + 1)).filter p = if p x then (l.take j).filter p ++ [x] else (l.take j).filter p := by
  rw [nu_ h, List.filter_append]
  cases hp : p x <;> simp [hp]
theorem ca_ {α : Type} {l : List α} {i : Nat} (h : i < l.length) : ∃ x, l[i]? = some x := ⟨_, List.getElem?_eq_getElem h⟩
def fd_ (S : Nat) : Nat → List (List Int)
  | 0 => [[]]
  | W + 1 => (List.range S).flatMap fun (x : Nat) => (fd_ S W).map fun c => (x : Int) :: c
theorem flat_len {α β : Type} {f : α → List β} {m : Nat} : ∀ (l : List α), (∀ x ∈ l, (f x).length = m) → (l.flatMap f).length = l.length * m
  | [], _ => by simp
  | x :: l, h => by
    rw [List.flatMap_cons, List.length_append, h x (by simp), flat_len l (fun y hy => h y (by simp [hy])), List.length_cons, Nat.add_mul]
    omega
theorem flat_get {α β : Type} {f : α → List β} {m : Nat} : ∀ (l : List α) (q r : Nat) (x : α), (∀ x ∈ l, (f x).length = m) → r < m → l[q]? = some x → (l.flatMap f)[q * m + r]? = (f x)[r]?
  | [], q, r, x, h, hr, hq => by simp at hq
  | y :: l, 0, r, x, h, hr, hq => by
    have e : y = x := by simpa using hq
    subst e
    rw [List.flatMap_cons, Nat.zero_mul, Nat.zero_add, List.getElem?_append_left (by rw [h y (by simp)]; exact hr)]
  | y :: l, q + 1, r, x, h, hr, hq => by
    have hq' : l[q]? = some x := by simpa using hq
    have hl := h y (by simp)
    rw [List.flatMap_cons, List.getElem?_append_right (by rw [hl, Nat.add_mul]; omega), hl, show (q + 1) * m + r - m = q * m + r by rw [Nat.add_mul]; omega]
    exact flat_get l q r x (fun z hz => h z (by simp [hz])) hr hq'
theorem jl_ (S : Nat) : ∀ W, (fd_ S W).length = S ^ W
  | 0 => rfl
  | W + 1 => by
    unfold fd_
    rw [flat_len (m := S ^ W) _ (fun x _ => by rw [List.length_map, jl_ S W]), List.length_range, Nat.pow_succ, Nat.mul_comm]
theorem codesL_mem (S : Nat) : ∀ W c, c ∈ fd_ S W ↔ c.length = W ∧ ∀ n ∈ c, 0 ≤ n ∧ n < (S : Int)
  | 0, c => by
    unfold fd_
    rw [List.mem_singleton]
    constructor
    · rintro rfl; exact ⟨rfl, by simp⟩
    · rintro ⟨h, _⟩; exact List.length_eq_zero_iff.1 h
  | W + 1, c => by
    unfold fd_
    rw [List.mem_flatMap]
    constructor
    · rintro ⟨x, hx, hc⟩
      obtain ⟨d, hd, rfl⟩ := List.mem_map.1 hc
      obtain ⟨h1, h2⟩ := (codesL_mem S W d).1 hd
      have := List.mem_range.1 hx
      refine ⟨by rw [List.length_cons, h1], fun n hn => ?_⟩
      rcases List.mem_cons.1 hn with rfl | hn
      · omega
      · exact h2 n hn
    · rintro ⟨h1, h2⟩
      cases c with
      | nil => simp at h1
      | cons x c =>
        obtain ⟨a, b⟩ := h2 x (by simp)
        refine ⟨x.toNat, List.mem_range.2 (by omega), List.mem_map.2 ⟨c, (codesL_mem S W c).2 ⟨by simpa using h1, fun n hn => h2 n (by simp [hn])⟩, ?_⟩⟩
        rw [show ((x.toNat : Nat) : Int) = x by omega]
theorem codesL_nodup (S : Nat) : ∀ W, (fd_ S W).Nodup
  | 0 => by simp [fd_]
  | W + 1 => by
    unfold fd_
    rw [List.Nodup, List.pairwise_flatMap]
    refine ⟨fun x _ => ?_, ?_⟩
    · rw [List.pairwise_map]
      exact (codesL_nodup S W).imp (fun h e => h (by simpa using e))
    · refine List.pairwise_lt_range.imp ?_
      intro a b hab c hc d hd e
      obtain ⟨c', _, rfl⟩ := List.mem_map.1 hc
      obtain ⟨d', _, rfl⟩ := List.mem_map.1 hd
      have : (a : Int) = b := by simpa using (List.cons.inj e).1
      omega
def dig (S : Nat) : Nat → Nat → List Int
  | 0, _ => []
  | W + 1, i => dig S W (i / S) ++ [((i % S : Nat) : Int)]
theorem dig_len (S : Nat) : ∀ W i, (dig S W i).length = W
  | 0, _ => rfl
  | W + 1, i => by unfold dig; rw [List.length_append, dig_len S W]; rfl
theorem dig_cons {S : Nat} (hS : 0 < S) : ∀ (W q r : Nat), q < S → r < S ^ W → dig S (W + 1) (q * S ^ W + r) = (q : Int) :: dig S W r
  | 0, q, r, hq, hr => by
    have : r = 0 := by simpa using hr
    subst this
    simp [dig, Nat.mod_eq_of_lt hq]
  | W + 1, q, r, hq, hr => by
    have e1 : (q * S ^ (W + 1) + r) / S = q * S ^ W + r / S := by
      rw [Nat.pow_succ, ← Nat.mul_assoc, Nat.mul_comm (q * S ^ W) S, Nat.mul_add_div hS]
    have e2 : (q * S ^ (W + 1) + r) % S = r % S := by
      rw [Nat.pow_succ, ← Nat.mul_assoc, Nat.mul_comm (q * S ^ W) S, Nat.mul_add_mod]
    have hr' : r / S < S ^ W := Nat.div_lt_of_lt_mul (by rw [Nat.mul_comm, ← Nat.pow_succ]; exact hr)
    rw [dig, e1, e2, dig_cons hS W q (r / S) hq hr']
    rfl
theorem ly_ {S : Nat} (hS : 0 < S) : ∀ (W i : Nat), i < S ^ W → (fd_ S W)[i]? = some (dig S W i)
  | 0, i, h => by
    have : i = 0 := by simpa using h
    subst this; rfl
  | W + 1, i, h => by
    have hP : 0 < S ^ W := Nat.pow_pos hS
    have hr : i % S ^ W < S ^ W := Nat.mod_lt _ hP
    have hq : i / S ^ W < S := Nat.div_lt_of_lt_mul (by rw [← Nat.pow_succ]; exact h)
    have he : i = i / S ^ W * S ^ W + i % S ^ W := by rw [Nat.mul_comm]; exact (Nat.div_add_mod i (S ^ W)).symm
    rw [he, dig_cons hS W _ _ hq hr]
    unfold fd_
    rw [flat_get (m := S ^ W) _ _ _ (i / S ^ W) (fun x _ => by rw [List.length_map, jl_]) hr (by rw [List.getElem?_range hq]), List.getElem?_map, ly_ hS W _ hr]
    rfl
noncomputable def tr (c : Clue) (code : List Int) : Bool := (ga_ c code).getD false
noncomputable def rdg (l : CodeLock) (cl : List Clue) : List (List Int) := (fd_ l.Symbols.toNat l.Wheels.toNat).filter fun c => cl.all (tr · c)
theorem tr_ref {l : CodeLock} (hl : Lk l) {c : Clue} {code : List Int} (hc : db_ l c = true) (hk : co_ l code = true) : ga_ c code = some (tr c code) := by
  obtain ⟨b, h1, _⟩ := holds_eq hl hc hk
  unfold tr; rw [h1]; rfl
theorem tr_holds {l : CodeLock} (hl : Lk l) {c : Clue} {code : List Int} (hc : db_ l c = true) (hk : co_ l code = true) : fy_ c code = some (tr c code) := by
  obtain ⟨b, h1, h2⟩ := holds_eq hl hc hk
  unfold tr; rw [h1, h2]; rfl
theorem codes_ok {l : CodeLock} (hl : Lk l) {c : List Int} : c ∈ fd_ l.Symbols.toNat l.Wheels.toNat ↔ co_ l c = true := by
  have := hl.w1; have := hl.s1
  rw [codesL_mem, fg_]
  constructor
  · rintro ⟨a, b⟩; exact ⟨by omega, fun n hn => by have := b n hn; omega⟩
  · rintro ⟨a, b⟩; exact ⟨by omega, fun n hn => by have := b n hn; omega⟩
theorem rdg_mem {l : CodeLock} (hl : Lk l) {cl : List Clue} {c : List Int} : c ∈ rdg l cl ↔ co_ l c = true ∧ ∀ k ∈ cl, tr k c = true := by
  unfold rdg
  rw [List.mem_filter, codes_ok hl, List.all_eq_true]
theorem rdg_nodup (l : CodeLock) (cl : List Clue) : (rdg l cl).Nodup := (codesL_nodup _ _).filter _
theorem pow_bd {l : CodeLock} (hl : Lk l) : l.Symbols.toNat ^ l.Wheels.toNat ≤ 10000 := by
  have := hl.w1; have := hl.w2; have := hl.s1; have := hl.s2
  have h1 : l.Symbols.toNat ^ l.Wheels.toNat ≤ 10 ^ l.Wheels.toNat := Nat.pow_le_pow_left (by omega) _
  have h2 : 10 ^ l.Wheels.toNat ≤ 10 ^ 4 := Nat.pow_le_pow_right (by omega) (by omega)
  omega
theorem rdg_bd {l : CodeLock} (hl : Lk l) (cl : List Clue) : (rdg l cl).length ≤ 10000 := by
  have h := List.length_filter_le (fun c => cl.all (tr · c)) (fd_ l.Symbols.toNat l.Wheels.toNat)
  have := pow_bd hl
  rw [jl_] at h
  unfold rdg; omega
theorem ref01_first_neg {l : CodeLock} (hl : Lk l) {cl : List Clue} {code : List Int} (hc : ∀ c ∈ cl, db_ l c = true) (hk : co_ l code = true) : ∃ r, ig_ cl code = some r ∧ (decide (r < 0) = cl.all (tr · code)) := by
  unfold ig_
  have := Tot.bind (Q := fun r => decide (r < 0) = cl.all (tr · code)) _ (Tot.forN (σ := Unit) (ρ := Int) (k := cl.length) (s := ()) (body := fun i1 s1 => (at? cl (i1 : Int)).bind fun x5 => (ga_ x5 code).bind fun x6 => if !x6 then some (Sum.inr (i1 : Int)) else some (Sum.inl ()))
    (fun j _ => ∀ k x, k < j → cl[k]? = some x → tr x code = true) (fun (r : Int) => 0 ≤ r ∧ cl.all (tr · code) = false) (fun k x hk _ => by omega) (by
      intro j s hj hI
      refine Tot.bind _ (Tot.atN hj) fun x hx => ?_
      rw [tr_ref hl (hc x (List.mem_of_getElem? hx)) hk, Option.bind_some]
      refine Tot.ite (fun hh => Tot.pure ⟨by omega, ?_⟩) (fun hh => Tot.pure ?_)
      · rw [List.all_eq_false]; exact ⟨x, List.mem_of_getElem? hx, by simpa using hh⟩
      · intro k y hk hy
        by_cases e : k = j
        · subst e; rw [hx] at hy; obtain rfl := Option.some.inj hy; simpa using hh
        · exact hI k y (by omega) hy)) (f := fun o2 => onL o2 fun _ => some (-1)) (fun o ho => Tot.onL (E := fun r => 0 ≤ r ∧ cl.all (tr · code) = false) ho (fun _ hh => Tot.pure (by
        rw [show decide ((-1 : Int) < 0) = true from rfl]; symm; rw [List.all_eq_true]
        intro x hx
        obtain ⟨k, hk⟩ := List.getElem?_of_mem hx
        exact hh k x (List.getElem?_eq_some_iff.1 hk).1 hk)) (fun r hh => by rw [hh.2, decide_eq_false (by omega)]))
  exact this
theorem rep_set {p : Nat} {x : Int} {t : List Int} : (List.replicate (p + 1) (0 : Int) ++ t).set p x = List.replicate p 0 ++ (x :: t) := by
  rw [List.set_append_left _ _ (by rw [List.length_replicate]; omega), List.replicate_succ', List.set_append_right _ _ (by rw [List.length_replicate]; omega), List.length_replicate, Nat.sub_self]
  simp
theorem ref01_All_eq {l : CodeLock} (hl : Lk l) {cl : List Clue} (hc : ∀ c ∈ cl, db_ l c = true) : ll_ l cl = some (rdg l cl) := by
  have w1 := hl.w1; have w2 := hl.w2; have s1 := hl.s1; have s2 := hl.s2
  obtain ⟨W, hW⟩ : ∃ W : Nat, l.Wheels = (W : Int) := ⟨l.Wheels.toNat, by omega⟩
  obtain ⟨S, hS⟩ : ∃ S : Nat, l.Symbols = (S : Int) := ⟨l.Symbols.toNat, by omega⟩
  have hpow : S ^ W ≤ 10000 := by have := pow_bd hl; rwa [hW, hS, Int.toNat_natCast, Int.toNat_natCast] at this
  have hSp : 0 < S := by omega
  unfold ll_
  rw [hW, cnt?_le (by omega), Option.bind_some, Int.toNat_natCast]
  have e1 : (forS (σ := Int) (fun i1 s1 => some (w64 (s1 * l.Symbols))) W 0 1) = some ((S ^ W : Nat) : Int) := by
    refine kb_ (fun j => ((S ^ j : Nat) : Int)) (fun j hj => ?_)
    have : S ^ (j + 1) ≤ 10000 := Nat.le_trans (Nat.pow_le_pow_right hSp (by omega)) hpow
    rw [hS, ← Int.natCast_mul, show S ^ j * S = S ^ (j + 1) from (Nat.pow_succ ..).symm, dz_ (by omega) (by omega)]
  rw [e1, Option.bind_some, cnt?_le (by omega), Option.bind_some, Int.toNat_natCast]
  have hlen := jl_ S W
  have e2 := kb_ (σ := List (List Int)) (k := S ^ W) (fun j => ((fd_ S W).take j).filter fun c => cl.all (tr · c)) (body := fun i2 s5 =>
     (mk? ((W : Nat) : Int) (0 : Int)).bind fun x75 =>
     (er_ (σ := (List Int × Int × Int)) (ρ := (List Int × Int × Int)) (fun s6 =>
     if decide (0 ≤ s6.2.2) then
     ((md s6.2.1 l.Symbols).bind fun x94 =>
     (at? s6.1 s6.2.2).bind fun x95 =>
     (dv s6.2.1 l.Symbols).bind fun x96 =>
     some (Sum.inl (s6.1.set (s6.2.2).toNat x94, x96, w64 (s6.2.2 - 1))))
     else
     (some (Sum.inr (s6.1, s6.2.1, s6.2.2)))) (x75, (i2 : Int), w64 ((W : Int) - 1))).bind fun out6 =>
     (ig_ cl out6.1).bind fun x97 =>
     if decide (x97 < 0) then
     ((push? s5 ([out6.1] : List (List Int))).bind fun x98 =>
     some x98)
     else
     (some s5)) (by
    intro j hj
    rw [mk?_le (by omega) (by omega), Option.bind_some, Int.toNat_natCast]
    have hdig : er_ (σ := (List Int × Int × Int)) (ρ := (List Int × Int × Int)) (fun s6 =>
     if decide (0 ≤ s6.2.2) then
     ((md s6.2.1 l.Symbols).bind fun x94 =>
     (at? s6.1 s6.2.2).bind fun x95 =>
     (dv s6.2.1 l.Symbols).bind fun x96 =>
     some (Sum.inl (s6.1.set (s6.2.2).toNat x94, x96, w64 (s6.2.2 - 1))))
     else
     (some (Sum.inr (s6.1, s6.2.1, s6.2.2)))) (List.replicate W 0, (j : Int), w64 ((W : Int) - 1)) = some (dig S W j, ((j / S ^ W : Nat) : Int), -1) := by
      have main : ∀ (p n : Nat) (t : List Int), p ≤ 4 → n ≤ 10000 → er_ (σ := (List Int × Int × Int)) (ρ := (List Int × Int × Int)) (fun s6 =>
         if decide (0 ≤ s6.2.2) then
         ((md s6.2.1 l.Symbols).bind fun x94 =>
         (at? s6.1 s6.2.2).bind fun x95 =>
         (dv s6.2.1 l.Symbols).bind fun x96 =>
         some (Sum.inl (s6.1.set (s6.2.2).toNat x94, x96, w64 (s6.2.2 - 1))))
         else
         (some (Sum.inr (s6.1, s6.2.1, s6.2.2)))) (List.replicate p 0 ++ t, (n : Int), (p : Int) - 1) = some (dig S p n ++ t, ((n / S ^ p : Nat) : Int), -1) := by
        intro p
        induction p with
        | zero =>
          intro n t _ _
          refine lg_ ?_
          rw [if_neg (by simp)]
          simp [dig]
        | succ p ih =>
          intro n t hp hn
          have hd : dv (n : Int) l.Symbols = some ((n / S : Nat) : Int) := by
            unfold dv
            have : n / S ≤ n := Nat.div_le_self n S
            rw [hS, if_neg (by omega), show (n : Int).tdiv (S : Int) = ((n / S : Nat) : Int) from (Int.ofNat_tdiv ..).symm]
            generalize n / S = q at this
            rw [dz_ (by omega) (by omega)]
          have hm : md (n : Int) l.Symbols = some ((n % S : Nat) : Int) := by
            rw [hS, md_pos (by omega), show (n : Int).tmod (S : Int) = ((n % S : Nat) : Int) from (Int.ofNat_tmod ..).symm]
          have ha : ∃ y, at? (List.replicate (p + 1) (0 : Int) ++ t) ((p : Nat) : Int) = some y := by
            obtain ⟨y, hy⟩ := ca_ (l := List.replicate (p + 1) (0 : Int) ++ t) (i := p) (by simp; omega)
            exact ⟨y, cf_ hy⟩
          obtain ⟨y, hy⟩ := ha
          have step : (fun s6 : List Int × Int × Int => if decide (0 ≤ s6.2.2) then
             ((md s6.2.1 l.Symbols).bind fun x94 =>
             (at? s6.1 s6.2.2).bind fun x95 =>
             (dv s6.2.1 l.Symbols).bind fun x96 =>
             some (Sum.inl (s6.1.set (s6.2.2).toNat x94, x96, w64 (s6.2.2 - 1))))
             else
             (some (Sum.inr (s6.1, s6.2.1, s6.2.2) : (List Int × Int × Int) ⊕ (List Int × Int × Int)))) (List.replicate (p + 1) 0 ++ t, (n : Int), ((p + 1 : Nat) : Int) - 1) = some (Sum.inl (List.replicate p 0 ++ (((n % S : Nat) : Int) :: t), ((n / S : Nat) : Int), (p : Int) - 1)) := by
            have e : ((p + 1 : Nat) : Int) - 1 = ((p : Nat) : Int) := by omega
            simp only [e]
            rw [if_pos (by simp), hm, hd, hy, dz_ (by omega) (by omega)]
            simp only [Option.bind_some, Int.toNat_natCast, rep_set]
          rw [whileO_inl step, ih (n / S) _ (by omega) (Nat.le_trans (Nat.div_le_self n S) hn)]
          simp [dig, Nat.pow_succ, Nat.div_div_eq_div_mul, Nat.mul_comm]
      have := main W j [] (by omega) (by omega)
      rw [dz_ (by omega) (by omega)]
      simpa using this
    rw [hdig, Option.bind_some]
    have hg := ly_ hSp W j hj
    have hok : co_ l (dig S W j) = true := by
      have := (codes_ok hl (c := dig S W j)).1 (by rw [hW, hS, Int.toNat_natCast, Int.toNat_natCast]; exact List.mem_of_getElem? hg)
      exact this
    obtain ⟨r, r1, r2⟩ := ref01_first_neg hl hc hok
    simp only
    rw [r1, Option.bind_some, r2]
    rw [filterS hg]
    have hb := List.length_filter_le (fun c => cl.all (tr · c)) ((fd_ S W).take j)
    rw [List.length_take] at hb
    cases hp : cl.all (tr · (dig S W j))
    · rfl
    · rw [if_pos rfl, if_pos rfl, eu_ (by simp only [List.length_singleton]; omega)]; rfl)
  refine (congrArg (fun o => Option.bind o _) e2).trans ?_
  rw [Option.bind_some]
  congr 1
  unfold rdg
  rw [hW, hS, Int.toNat_natCast, Int.toNat_natCast, ← hlen, List.take_length]
end Go.Proofs.YtlpdpeghgndmkaaGreat.Pad
