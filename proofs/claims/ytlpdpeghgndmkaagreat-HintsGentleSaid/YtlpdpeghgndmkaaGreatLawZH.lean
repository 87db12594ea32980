/- What may still be: the possible codes of a lock. -/
import Derived.Test.YtlpdpeghgndmkaaGreatLawZG
set_option linter.unusedVariables false
set_option linter.unusedSimpArgs false
namespace Go.Proofs.YtlpdpeghgndmkaaGreat.Pad
open Go
noncomputable def mayBe (r : Riddle) (i : Nat) (c : List Int) : Bool := (Wc r).any fun w => decide (w[i]? = some c)
noncomputable def poss (r : Riddle) (i : Nat) : List (List Int) := ((ez_ r)[i]?.getD []).filter (mayBe r i)
noncomputable def possL (r : Riddle) : List (List (List Int)) := (List.range r.Locks.length).map (poss r)
theorem possL_len (r : Riddle) : (possL r).length = r.Locks.length := by unfold possL; rw [List.length_map, List.length_range]
theorem possL_get {r : Riddle} {i : Nat} (h : i < r.Locks.length) : (possL r)[i]? = some (poss r i) := by
  unfold possL; rw [List.getElem?_map, List.getElem?_range h]; rfl
theorem get_hereN {α : Type} {p : List α} {x : α} {t : List α} {i : Nat} (h : p.length = i) : at? (p ++ x :: t) ((i : Nat) : Int) = some x := by
  subst h; rw [pc_, List.getElem?_append_right (Nat.le_refl _), Nat.sub_self]; rfl
theorem set_hereN {α : Type} {p : List α} {x y : α} {t : List α} {i : Nat} (h : p.length = i) : (p ++ x :: t).set i y = p ++ y :: t := by
  subst h; rw [List.set_append_right _ _ (Nat.le_refl _), Nat.sub_self]; rfl
theorem rep_succ {α : Type} {z : α} {n i : Nat} (h : i < n) : List.replicate (n - i) z = z :: List.replicate (n - (i + 1)) z := by
  rw [show n - i = (n - (i + 1)) + 1 by omega, List.replicate_succ]
theorem take_len {α : Type} {l : List α} {i : Nat} (h : i ≤ l.length) : (l.take i).length = i := by rw [List.length_take]; omega
def markG (s : List (List Bool)) (iv : List Int) : List (List Bool) := List.zipWith (fun m (x : Int) => m.set x.toNat true) s iv
structure Marks (al : List (List (List Int))) (s : List (List Bool)) : Prop where
  len : s.length = al.length
  at_ : ∀ (i : Nat) a, al[i]? = some a → ∃ m, s[i]? = some m ∧ m.length = a.length
theorem zip_some {α β γ : Type} {f : α → β → γ} {a : List α} {b : List β} {i : Nat} {z : γ} (h : (List.zipWith f a b)[i]? = some z) : ∃ x y, a[i]? = some x ∧ b[i]? = some y ∧ z = f x y := by
  rw [List.getElem?_zipWith] at h
  cases h1 : a[i]? with
  | none => rw [h1] at h; cases h
  | some x =>
    cases h2 : b[i]? with
    | none => rw [h1, h2] at h; cases h
    | some y => rw [h1, h2] at h; exact ⟨x, y, rfl, rfl, (Option.some.inj h).symm⟩
theorem Marks.step {al : List (List (List Int))} {s : List (List Bool)} (h : Marks al s) {iv : List Int} (hl : iv.length = al.length) : Marks al (markG s iv) := by
  constructor
  · unfold markG; rw [List.length_zipWith, h.len, hl, Nat.min_self]
  · intro i a ha
    obtain ⟨m, h1, h2⟩ := h.at_ i a ha
    obtain ⟨x, hx⟩ := ca_ (l := iv) (i := i) (by have := lt_of_get? ha; omega)
    exact ⟨_, zip_get h1 hx, by rw [List.length_set, h2]⟩
theorem mark_eq {al : List (List (List Int))} {s : List (List Bool)} (h : Marks al s) {iv : List Int} (hv : iv ∈ gi_ (al.map ixs)) : forS (σ := (List (List Bool))) (fun i5 s7 =>
    (at? iv (i5 : Int)).bind fun x61 =>
    (at? s7 (i5 : Int)).bind fun x62 =>
    (at? x62 x61).bind fun x63 =>
    some (s7.set ((i5 : Int)).toNat (x62.set (x61).toNat true))) iv.length 0 s = some (markG s iv) := by
  have hl : iv.length = al.length := by have := (iv_.1 hv).1; rwa [List.length_map] at this
  have := kb_ (k := iv.length) (fun j => (markG s iv).take j ++ s.drop j) (body := fun i5 s7 =>
    (at? iv (i5 : Int)).bind fun x61 =>
    (at? s7 (i5 : Int)).bind fun x62 =>
    (at? x62 x61).bind fun x63 =>
    some (s7.set ((i5 : Int)).toNat (x62.set (x61).toNat true))) (by
    intro j hj
    have hml := (h.step hl).len
    obtain ⟨a, ha⟩ := ca_ (l := al) (i := j) (by omega)
    obtain ⟨x, p1, p2, p3, c, p4, p5⟩ := iv_at hv ha
    obtain ⟨m, m1, m2⟩ := h.at_ j a ha
    have hjs : j < s.length := by rw [h.len]; omega
    have hd : s.drop j = m :: s.drop (j + 1) := by
      rw [List.drop_eq_getElem_cons hjs]
      congr 1
      rw [List.getElem?_eq_getElem hjs] at m1; exact Option.some.inj m1
    have hk : ((markG s iv).take j).length = j := take_len (by omega)
    rw [cf_ p1, Option.bind_some, hd, get_hereN hk, Option.bind_some]
    obtain ⟨b, hb⟩ := ca_ (l := m) (i := x.toNat) (by omega)
    have hz : (markG s iv)[j]? = some (m.set x.toNat true) := zip_get m1 p1
    rw [fe_ p2 hb, Option.bind_some, Int.toNat_natCast, set_hereN hk, nu_ hz, List.append_assoc]
    rfl)
  rw [show ((markG s iv).take 0 ++ s.drop 0) = s from rfl] at this
  rw [this, show iv.length = (markG s iv).length by rw [(h.step hl).len, hl], List.take_length, List.drop_of_length_le (by rw [(h.step hl).len, h.len]; exact Nat.le_refl _), List.append_nil]
def Seen (s : List (List Bool)) (l : List (List Int)) : Prop := ∀ (i k : Nat) m b, s[i]? = some m → m[k]? = some b → (b = true ↔ ∃ iv ∈ l, iv[i]? = some (k : Int))
theorem Seen.step {s : List (List Bool)} {l : List (List Int)} (h : Seen s l) {iv : List Int} (hv : ∀ x ∈ iv, 0 ≤ x) : Seen (markG s iv) (l ++ [iv]) := by
  intro i k m b hm hb
  obtain ⟨m0, x, h1, h2, rfl⟩ := zip_some hm
  have hx := hv x (List.mem_of_getElem? h2)
  rw [List.getElem?_set] at hb
  by_cases e : x.toNat = k
  · rw [if_pos e] at hb
    by_cases e2 : x.toNat < m0.length
    · rw [if_pos e2] at hb
      obtain rfl := Option.some.inj hb
      exact ⟨fun _ => ⟨iv, by simp, by rw [h2]; congr 1; omega⟩, fun _ => rfl⟩
    · rw [if_neg e2] at hb; cases hb
  · rw [if_neg e] at hb
    rw [h i k m0 b h1 hb]
    constructor
    · rintro ⟨v, hv, e⟩; exact ⟨v, by simp [hv], e⟩
    · rintro ⟨v, hv, e'⟩
      rcases List.mem_append.1 hv with hv | hv
      · exact ⟨v, hv, e'⟩
      · rw [List.mem_singleton.1 hv, h2] at e'
        exact absurd (show x.toNat = k by have := Option.some.inj e'; omega) e
theorem Seen.fold : ∀ (l : List (List Int)) (s : List (List Bool)) (l0 : List (List Int)), Seen s l0 → (∀ iv ∈ l, ∀ x ∈ iv, 0 ≤ x) → Seen (l.foldl markG s) (l0 ++ l)
  | [], s, l0, h, _ => by simpa using h
  | iv :: l, s, l0, h, hv => by
    have := Seen.fold l (markG s iv) (l0 ++ [iv]) (h.step (hv iv (by simp))) (fun v hv' => hv v (by simp [hv']))
    simpa using this
theorem iv_pos {al : List (List (List Int))} {iv : List Int} (hv : iv ∈ gi_ (al.map ixs)) : ∀ x ∈ iv, 0 ≤ x := by
  intro x hx
  obtain ⟨h1, h2⟩ := iv_.1 hv
  obtain ⟨i, hi⟩ := List.getElem?_of_mem hx
  have hli := lt_of_get? hi
  rw [List.length_map] at h1
  obtain ⟨a, ha⟩ := ca_ (l := al) (i := i) (by omega)
  exact (ixs_mem.1 (h2 i (ixs a) x (by rw [List.getElem?_map, ha]; rfl) hi)).1
theorem inj_get {α : Type} {l : List α} (h : l.Nodup) {i j : Nat} {x : α} (h1 : l[i]? = some x) (h2 : l[j]? = some x) : i = j :=
  (List.getElem?_inj (lt_of_get? h1) h).1 (h1.trans h2.symm)
theorem mayBe_iff {r : Riddle} {i k : Nat} {a : List (List Int)} {c : List Int} (ha : (ez_ r)[i]? = some a) (hnd : a.Nodup) (hc : a[k]? = some c) : mayBe r i c = true ↔ ∃ iv ∈ Wi r, iv[i]? = some (k : Int) := by
  unfold mayBe
  rw [List.any_eq_true, Wc_Wi]
  constructor
  · rintro ⟨w, hw, e⟩
    obtain ⟨iv, hiv, rfl⟩ := List.mem_map.1 hw
    obtain ⟨x, p1, p2, p3, c', p4, p5⟩ := iv_at (List.mem_filter.1 hiv).1 ha
    rw [p5] at e
    have e' : c' = c := by simpa using e
    subst e'
    have := inj_get hnd p4 hc
    exact ⟨iv, hiv, by rw [p1]; congr 1; omega⟩
  · rintro ⟨iv, hiv, e⟩
    obtain ⟨x, p1, p2, p3, c', p4, p5⟩ := iv_at (List.mem_filter.1 hiv).1 ha
    rw [p1] at e
    have : x = (k : Int) := Option.some.inj e
    subst this
    rw [Int.toNat_natCast, hc] at p4
    obtain rfl := Option.some.inj p4
    exact ⟨_, List.mem_map.2 ⟨iv, hiv, rfl⟩, by simp [p5]⟩
theorem rdgs_at {r : Riddle} (g : Good r) {i : Nat} {a : List (List Int)} (ha : (ez_ r)[i]? = some a) : a.Nodup ∧ a.length ≤ 10000 := by
  obtain ⟨l, c, k, e1, e2, e3, x, b, d, e, f, z⟩ := g.at_ (i := i) (by have := lt_of_get? ha; rwa [hl_ g] at this)
  rw [z] at ha
  obtain rfl := Option.some.inj ha
  exact ⟨rdg_nodup l k, rdg_bd x k⟩
theorem poss_at {r : Riddle} {i : Nat} {a : List (List Int)} (ha : (ez_ r)[i]? = some a) : poss r i = a.filter (mayBe r i) := by
  unfold poss; rw [ha]; rfl
theorem lr_ {r : Riddle} (g : Good r) : dc_ ⟨r, ez_ r⟩ = some (possL r) := by
  have hn := hl_ g
  have n8 := g.n8
  unfold dc_
  simp only
  rw [mk?_le (by omega) (by omega), Option.bind_some, Int.toNat_natCast]
  have l1 := kb_ (k := (ez_ r).length) (fun j => ((ez_ r).take j).map (fun a => List.replicate a.length false) ++ List.replicate (r.Locks.length - j) ([] : List Bool)) (body := fun i1 s1 =>
     (at? (ez_ r) (i1 : Int)).bind fun x11 =>
     (mk? (x11.length : Int) false).bind fun x12 =>
     (at? s1 (i1 : Int)).bind fun x13 =>
     some (s1.set ((i1 : Int)).toNat x12)) (by
    intro j hj
    obtain ⟨a, ha⟩ := ca_ hj
    have hb := (rdgs_at g ha).2
    have hk : (((ez_ r).take j).map (fun a => List.replicate a.length false)).length = j := by rw [List.length_map]; exact take_len (by omega)
    rw [cf_ ha, Option.bind_some, mk?_le (by omega) (by omega), Option.bind_some, rep_succ (by omega), get_hereN hk, Option.bind_some, Int.toNat_natCast, Int.toNat_natCast, set_hereN hk, nu_ ha, List.map_append, List.append_assoc]
    rfl)
  refine (congrArg (fun o => Option.bind o _) (show forS (σ := List (List Bool)) _ (ez_ r).length 0 _ = _ from l1)).trans ?_
  rw [Option.bind_some, List.take_length, hn, Nat.sub_self, List.replicate_zero, List.append_nil]
  let M0 := (ez_ r).map (fun a => List.replicate a.length false)
  have hM0 : Marks (ez_ r) M0 := ⟨List.length_map _, fun i a ha => ⟨_, by rw [List.getElem?_map, ha]; rfl, List.length_replicate⟩⟩
  have hS0 : Seen M0 [] := by
    intro i k m b hm hb
    rw [List.getElem?_map] at hm
    cases ha : (ez_ r)[i]? with
    | none => rw [ha] at hm; cases hm
    | some a =>
      rw [ha] at hm
      obtain rfl := Option.some.inj hm
      have : b = false := List.eq_of_mem_replicate (List.mem_of_getElem? hb)
      subst this; simp
  obtain ⟨w1, w2⟩ := mx_ g (τ := Empty) (f := fun x50 s5 => (forS (σ := (List (List Bool))) (fun i5 s7 =>
     (at? x50 (i5 : Int)).bind fun x61 =>
     (at? s7 (i5 : Int)).bind fun x62 =>
     (at? x62 x61).bind fun x63 =>
     some (s7.set ((i5 : Int)).toNat (x62.set (x61).toNat true))) x50.length 0 s5).bind fun out5 =>
     some (Sum.inl out5)) (G := markG) (Marks (ez_ r)) (by
      intro iv s hiv hs
      have hm := (List.mem_filter.1 hiv).1
      rw [mark_eq hs hm, Option.bind_some]
      exact ⟨rfl, hs.step (by have := (iv_.1 hm).1; rwa [List.length_map] at this)⟩) M0 hM0
  have hS : Seen ((Wi r).foldl markG M0) (Wi r) := by
    have := Seen.fold (Wi r) M0 [] hS0 (fun iv hiv => iv_pos (List.mem_filter.1 hiv).1)
    simpa using this
  refine (congrArg (fun o => Option.bind o _) w1).trans ?_
  rw [Option.bind_some]
  show Option.bind (mk? _ _) _ = _
  rw [mk?_le (by omega) (by omega), Option.bind_some, Int.toNat_natCast]
  generalize (Wi r).foldl markG M0 = M at w2 hS
  have hp := possL_len r
  have l2 := kb_ (k := (ez_ r).length) (fun j => (possL r).take j ++ List.replicate (r.Locks.length - j) ([] : List (List Int))) (body := fun i9 s12 =>
     (at? (ez_ r) (i9 : Int)).bind fun x140 =>
     (forS (σ := (List (List (List Int)))) (fun i10 s13 =>
     (at? x140 (i10 : Int)).bind fun x159 =>
     (at? M (i9 : Int)).bind fun x160 =>
     (at? x160 (i10 : Int)).bind fun x161 =>
     if x161 then
     ((at? s13 (i9 : Int)).bind fun x162 =>
     (push? x162 ([x159] : List (List Int))).bind fun x163 =>
     (at? s13 (i9 : Int)).bind fun x164 =>
     some (s13.set ((i9 : Int)).toNat x163))
     else
     (some s13)) x140.length 0 s12).bind fun out10 =>
     some out10) (by
    intro i hi
    obtain ⟨a, ha⟩ := ca_ hi
    obtain ⟨hnd, hb⟩ := rdgs_at g ha
    obtain ⟨m, m1, m2⟩ := w2.at_ i a ha
    have hk : ((possL r).take i).length = i := take_len (by omega)
    rw [cf_ ha, Option.bind_some]
    have l3 := kb_ (k := a.length) (fun k => (possL r).take i ++ ((a.take k).filter (mayBe r i)) :: List.replicate (r.Locks.length - (i + 1)) ([] : List (List Int))) (body := fun i10 s13 =>
       (at? a (i10 : Int)).bind fun x159 =>
       (at? M (i : Int)).bind fun x160 =>
       (at? x160 (i10 : Int)).bind fun x161 =>
       if x161 then
       ((at? s13 (i : Int)).bind fun x162 =>
       (push? x162 ([x159] : List (List Int))).bind fun x163 =>
       (at? s13 (i : Int)).bind fun x164 =>
       some (s13.set ((i : Int)).toNat x163))
       else
       (some s13)) (by
      intro k hk2
      obtain ⟨c, hc⟩ := ca_ hk2
      obtain ⟨b, hb2⟩ := ca_ (l := m) (i := k) (by omega)
      have hbe : b = mayBe r i c := by
        have e1 := hS i k m b m1 hb2
        have e2 := mayBe_iff ha hnd hc
        exact Bool.eq_iff_iff.2 (e1.trans e2.symm)
      rw [cf_ hc, Option.bind_some, cf_ m1, Option.bind_some, cf_ hb2, Option.bind_some, filterS hc, hbe]
      cases hmb : mayBe r i c
      · rfl
      · have hfl := List.length_filter_le (mayBe r i) (a.take k)
        rw [List.length_take] at hfl
        rw [if_pos rfl, if_pos rfl, get_hereN hk, Option.bind_some, eu_ (by rw [List.length_singleton]; omega), Option.bind_some, Option.bind_some, Int.toNat_natCast, set_hereN hk])
    rw [rep_succ (by omega)]
    refine (congrArg (fun o => Option.bind o _) (show forS (σ := List (List (List Int))) _ a.length 0 _ = _ from l3)).trans ?_
    rw [Option.bind_some, List.take_length, nu_ (possL_get (by omega)), poss_at ha, List.append_assoc]
    rfl)
  rw [hn] at l2
  refine (congrArg (fun o => Option.bind o _) (show forS (σ := List (List (List Int))) _ r.Locks.length 0 _ = _ from l2)).trans ?_
  rw [Option.bind_some, Nat.sub_self, List.replicate_zero, List.append_nil, ← hp, List.take_length]
noncomputable def cntL (r : Riddle) : List Int := (possL r).map fun p => (p.length : Int)
theorem hv_ {r : Riddle} (g : Good r) : cq_ ⟨r, ez_ r⟩ = some (cntL r) := by
  unfold cq_
  have n8 := g.n8
  have hp := possL_len r
  rw [lr_ g, Option.bind_some]
  have l1 := kb_ (k := (possL r).length) (fun j => ((possL r).take j).map fun p => (p.length : Int)) (body := fun i1 s1 =>
     (at? (possL r) (i1 : Int)).bind fun x8 =>
     (push? s1 ([(x8.length : Int)] : List Int)).bind fun x9 =>
     some x9) (by
    intro j hj
    obtain ⟨p, hpj⟩ := ca_ hj
    rw [cf_ hpj, Option.bind_some, eu_ (by rw [List.length_map, List.length_take, List.length_singleton]; omega), Option.bind_some, mapS hpj])
  refine (congrArg (fun o => Option.bind o _) (show forS (σ := List Int) _ (possL r).length 0 _ = _ from l1)).trans ?_
  rw [Option.bind_some, List.take_length]
  rfl
end Go.Proofs.YtlpdpeghgndmkaaGreat.Pad
