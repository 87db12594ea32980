/- The program's worlds: by places, and what they show. -/
import Derived.Test.YtlpdpeghgndmkaaLawHF
set_option linter.unusedVariables false
set_option linter.unusedSimpArgs false
namespace Go.Proofs.Ytlpdpeghgndmkaa.Pad
open Go
def ixs (a : List (List Int)) : List Int := (List.range a.length).map fun (k : Nat) => (k : Int)
theorem ixs_len (a : List (List Int)) : (ixs a).length = a.length := by unfold ixs; rw [List.length_map, List.length_range]
theorem ixs_get {a : List (List Int)} {k : Nat} (h : k < a.length) : (ixs a)[k]? = some (k : Int) := by
  unfold ixs; rw [List.getElem?_map, List.getElem?_range h]; rfl
theorem ixs_mem {a : List (List Int)} {x : Int} : x ∈ ixs a ↔ 0 ≤ x ∧ x < a.length := by
  unfold ixs
  rw [List.mem_map]
  constructor
  · rintro ⟨k, hk, rfl⟩; have := List.mem_range.1 hk; omega
  · rintro ⟨h1, h2⟩; exact ⟨x.toNat, List.mem_range.2 (by omega), by omega⟩
def cod (al : List (List (List Int))) (iv : List Int) : List (List Int) := List.zipWith (fun a (x : Int) => a[x.toNat]?.getD []) al iv
theorem map_ixs (a : List (List Int)) : (ixs a).map (fun x : Int => a[x.toNat]?.getD []) = a := by
  apply List.ext_getElem?
  intro k
  rw [List.getElem?_map]
  by_cases hk : k < a.length
  · rw [ixs_get hk]
    obtain ⟨x, hx⟩ := bx_ hk
    simp [hx]
  · rw [List.getElem?_eq_none (by rw [ixs_len]; omega), List.getElem?_eq_none (by omega)]; rfl
theorem prodL_cod : ∀ al : List (List (List Int)), go_ al = (go_ (al.map ixs)).map (cod al)
  | [] => rfl
  | a :: al => by
    rw [List.map_cons, go_, go_, List.map_flatMap]
    conv => lhs; rw [← map_ixs a]
    rw [List.flatMap_map, prodL_cod al]
    congr 1
    funext x
    rw [List.map_map, List.map_map]
    rfl
theorem iv_at {al : List (List (List Int))} {iv : List Int} (h : iv ∈ go_ (al.map ixs)) {i : Nat} {a : List (List Int)} (ha : al[i]? = some a) : ∃ x, iv[i]? = some x ∧ 0 ≤ x ∧ x < a.length ∧ ∃ c, a[x.toNat]? = some c ∧ (cod al iv)[i]? = some c := by
  obtain ⟨h1, h2⟩ := je_.1 h
  have hi := lt_of_get? ha
  rw [List.length_map] at h1
  obtain ⟨x, hx⟩ := bx_ (l := iv) (i := i) (by omega)
  have hm := h2 i (ixs a) x (by rw [List.getElem?_map, ha]; rfl) hx
  obtain ⟨x0, x1⟩ := ixs_mem.1 hm
  obtain ⟨c, hc⟩ := bx_ (l := a) (i := x.toNat) (by omega)
  exact ⟨x, hx, x0, x1, c, hc, by unfold cod; rw [zip_get ha hx, hc]; rfl⟩
def tieds (r : Riddle) (al : List (List (List Int))) (iv : List Int) : Bool := r.Ties.all (tieHolds (cod al iv))
noncomputable def Wi (r : Riddle) : List (List Int) := (go_ ((fb_ r).map ixs)).filter (tieds r (fb_ r))
theorem Wc_Wi (r : Riddle) : Wc r = (Wi r).map (cod (fb_ r)) := by
  unfold Wc Wi
  rw [prodL_cod, List.filter_map]
  rfl
theorem cod_prod {al : List (List (List Int))} {iv : List Int} (h : iv ∈ go_ (al.map ixs)) : cod al iv ∈ go_ al := by
  rw [prodL_cod]; exact List.mem_map.2 ⟨iv, h, rfl⟩
theorem hints_ties_eq {r : Riddle} (g : Good r) {iv : List Int} (h : iv ∈ go_ ((fb_ r).map ixs)) {σ τ : Type} (s : σ) : forN (σ := Unit) (ρ := List Int × (σ ⊕ τ)) (fun i1 s1 =>
   (at? r.Ties (i1 : Int)).bind fun x10 =>
   (co_ x10.LockA x10.WheelA ⟨(⟨r, fb_ r⟩ : Hints_room)⟩ iv).bind fun x11 =>
   (co_ x10.LockB x10.WheelB ⟨(⟨r, fb_ r⟩ : Hints_room)⟩ iv).bind fun x12 =>
   if x11 != x12 then
   (some (Sum.inr (iv, (Sum.inl s))))
   else
   (some (Sum.inl ()))) r.Ties.length 0 () = some (if tieds r (fb_ r) iv then .inl () else .inr (iv, .inl s)) := by
  refine forN_all (fun j t ht => ?_)
  have hn := hv_ g
  obtain ⟨⟨la, lb, T⟩, _⟩ := okTie_at (g.ti t (List.mem_of_getElem? ht))
  have := T.a0; have := T.a1; have := T.b0; have := T.b1; have := T.wa0; have := T.wa1; have := T.wb0; have := T.wb1
  obtain ⟨A, hA⟩ := bx_ (l := fb_ r) (i := t.LockA.toNat) (by omega)
  obtain ⟨B, hB⟩ := bx_ (l := fb_ r) (i := t.LockB.toNat) (by omega)
  obtain ⟨x, p1, p2, p3, ca, p4, p5⟩ := iv_at h hA
  obtain ⟨y, q1, q2, q3, cb, q4, q5⟩ := iv_at h hB
  obtain ⟨la', ca', e1, e2, e3, e4⟩ := world_at g (cod_prod h) (i := t.LockA.toNat) (by omega)
  obtain ⟨lb', cb', f1, f2, f3, f4⟩ := world_at g (cod_prod h) (i := t.LockB.toNat) (by omega)
  rw [T.ea] at e1; obtain rfl := Option.some.inj e1
  rw [T.eb] at f1; obtain rfl := Option.some.inj f1
  rw [p5] at e2; obtain rfl := Option.some.inj e2
  rw [q5] at f2; obtain rfl := Option.some.inj f2
  have la := (fh_.1 e4).1; have lb := (fh_.1 f4).1
  obtain ⟨u, hu, hu'⟩ := at?_int (l := ca) (i := t.WheelA) T.wa0 (by omega)
  obtain ⟨v, hv, hv'⟩ := at?_int (l := cb) (i := t.WheelB) T.wb0 (by omega)
  rw [cf_ ht, Option.bind_some]
  unfold co_
  simp only
  rw [fr_ T.a0 hA, Option.bind_some, fr_ T.a0 p1, Option.bind_some, fr_ p2 p4, Option.bind_some, hu, Option.bind_some, Option.bind_some,
    fr_ T.b0 hB, Option.bind_some, fr_ T.b0 q1, Option.bind_some, fr_ q2 q4, Option.bind_some, hv, Option.bind_some, Option.bind_some]
  unfold tieHolds
  rw [p5, q5]
  simp only [hu', hv']
  by_cases hxy : u = v <;> simp [hxy]
theorem hints_worlds_2_eq {r : Riddle} (g : Good r) {σ τ : Type} {f : List Int → σ → Option (σ ⊕ τ)} {G : σ → List Int → σ} (P : σ → Prop) (hP : ∀ iv s, iv ∈ Wi r → P s → f iv s = some (.inl (G s iv)) ∧ P (G s iv)) :
    ∀ (m n : Nat) (p t : List Int) (s : σ), m < n → t.length = m → p.length + m = (fb_ r).length → (∀ v ∈ go_ (((fb_ r).drop p.length).map ixs), p ++ v ∈ go_ ((fb_ r).map ixs)) → P s →
    ∃ t', t'.length = m ∧ cb_ n (p.length : Int) (p ++ t) ⟨(⟨r, fb_ r⟩ : Hints_room)⟩ f s = some (p ++ t', .inl ((((go_ (((fb_ r).drop p.length).map ixs)).map (p ++ ·)).filter (tieds r (fb_ r))).foldl G s)) ∧
      P ((((go_ (((fb_ r).drop p.length).map ixs)).map (p ++ ·)).filter (tieds r (fb_ r))).foldl G s) := by
  have hn := hv_ g
  have n8 := g.n8
  intro m
  induction m with
  | zero =>
    intro n p t s h1 h2 h3 h4 hs
    obtain ⟨n, rfl⟩ : ∃ k, n = k + 1 := ⟨n - 1, by omega⟩
    obtain rfl := List.length_eq_zero_iff.1 h2
    refine ⟨[], rfl, ?_⟩
    have hd : (fb_ r).drop p.length = [] := List.drop_of_length_le (by omega)
    rw [hd] at h4 ⊢
    rw [List.append_nil]
    have hw : p ∈ go_ ((fb_ r).map ixs) := by simpa using h4 [] (by simp [go_])
    unfold cb_
    rw [if_pos (by simp)]
    have hl := hints_ties_eq g hw (τ := τ) s
    rw [show (forN (σ := Unit) (ρ := List Int × (σ ⊕ τ)) _ (⟨(⟨r, fb_ r⟩ : Hints_room)⟩ : PRef Hints_room).v.Riddle.Ties.length 0 ()) = _ from hl, Option.bind_some]
    cases ht : tieds r (fb_ r) p
    · simp [go_, ht, onL, hs]
    · obtain ⟨a, b⟩ := hP p s (by unfold Wi; rw [List.mem_filter]; exact ⟨hw, ht⟩) hs
      simp [go_, ht, onL, a, b]
  | succ m ih =>
    intro n p t s h1 h2 h3 h4 hs
    obtain ⟨n, rfl⟩ : ∃ k, n = k + 1 := ⟨n - 1, by omega⟩
    unfold cb_
    have hpl : p.length < (fb_ r).length := by omega
    obtain ⟨a, ha⟩ := bx_ hpl
    have hd : (fb_ r).drop p.length = a :: (fb_ r).drop (p.length + 1) := by
      rw [List.drop_eq_getElem_cons hpl]
      congr 1
      rw [List.getElem?_eq_getElem hpl] at ha; exact Option.some.inj ha
    rw [if_neg (by simp; omega)]
    simp only
    rw [cf_ ha, Option.bind_some]
    rw [hd, List.map_cons] at h4 ⊢
    let R := go_ (((fb_ r).drop (p.length + 1)).map ixs)
    have hR : go_ (ixs a :: ((fb_ r).drop (p.length + 1)).map ixs) = (ixs a).flatMap fun x => R.map (x :: ·) := rfl
    rw [hR] at h4 ⊢
    let T : Nat → List (List Int) := fun j => ((((ixs a).take j).flatMap fun x => R.map (x :: ·)).map (p ++ ·)).filter (tieds r (fb_ r))
    let B : Nat → σ × List Int → Option ((σ × List Int) ⊕ (List Int × (σ ⊕ τ))) := fun i2 s6 =>
         (at? s6.2 (p.length : Int)).bind fun x27 =>
         (cb_ n (w64 ((p.length : Int) + 1)) (s6.2.set ((p.length : Int)).toNat (i2 : Int)) ⟨(⟨r, fb_ r⟩ : Hints_room)⟩ f s6.1).bind fun x28 =>
         jn2 x28 fun x29 x30 =>
         sm x30 (fun s7 =>
         some (Sum.inl (s7, x29))) fun q56 =>
         some (Sum.inr (x29, (Sum.inr q56)))
    have hloop : ∀ (k i : Nat) (q : σ × List Int), i + k = a.length → (∃ t', t'.length = m + 1 ∧ q = ((T i).foldl G s, p ++ t')) → P q.1 →
        ∃ q' : σ × List Int, forN B k i q = some (.inl q') ∧ (∃ t', t'.length = m + 1 ∧ q' = ((T a.length).foldl G s, p ++ t')) ∧ P q'.1 := by
      intro k
      induction k with
      | zero =>
        intro i q hk hq hPq
        rw [show i = a.length by omega] at hq
        exact ⟨q, rfl, hq, hPq⟩
      | succ k ihk =>
        rintro i q hk ⟨t', ht', rfl⟩ hPq
        obtain ⟨x, t2, rfl⟩ : ∃ x t2, t' = x :: t2 := by
          cases t' with
          | nil => simp at ht'
          | cons x t2 => exact ⟨x, t2, rfl⟩
        have hgi := ixs_get (a := a) (k := i) (by omega)
        obtain ⟨u, hu1, hu2, hu3⟩ := ih n (p ++ [(i : Int)]) t2 ((T i).foldl G s) (by omega) (by simpa using ht') (by rw [List.length_append]; simp; omega) (by
          rw [List.length_append]
          intro v hv
          have := h4 ((i : Int) :: v) (List.mem_flatMap.2 ⟨_, List.mem_of_getElem? hgi, List.mem_map.2 ⟨v, hv, rfl⟩⟩)
          simpa using this) hPq
        rw [List.length_append] at hu2 hu3
        rw [List.append_assoc, List.append_assoc] at hu2
        have hb : B i ((T i).foldl G s, p ++ x :: t2) = some (.inl (((R.map ((p ++ [(i : Int)]) ++ ·)).filter (tieds r (fb_ r))).foldl G ((T i).foldl G s), p ++ (i : Int) :: u)) := by
          show (at? (p ++ x :: t2) (p.length : Int)).bind _ = _
          rw [mn_, Option.bind_some]
          show (cb_ n (w64 ((p.length : Int) + 1)) ((p ++ x :: t2).set ((p.length : Int)).toNat (i : Int)) ⟨(⟨r, fb_ r⟩ : Hints_room)⟩ f ((T i).foldl G s)).bind _ = _
          rw [Int.toNat_natCast, set_here, ea_ (by omega) (by omega), show ((p.length : Int) + 1) = ((p.length + [(i : Int)].length : Nat) : Int) by simp]
          rw [show p ++ (i : Int) :: t2 = p ++ ([(i : Int)] ++ t2) from rfl, hu2, Option.bind_some]
          rfl
        have hT : ((R.map ((p ++ [(i : Int)]) ++ ·)).filter (tieds r (fb_ r))).foldl G ((T i).foldl G s) = (T (i + 1)).foldl G s := by
          show _ = (((((ixs a).take (i + 1)).flatMap fun x => R.map (x :: ·)).map (p ++ ·)).filter (tieds r (fb_ r))).foldl G s
          rw [oe_ hgi, List.flatMap_append, List.map_append, List.filter_append, List.foldl_append]
          show _ = List.foldl G ((T i).foldl G s) _
          congr 2
          simp [Function.comp_def]
        have hu3' : P ((T (i + 1)).foldl G s) := by rw [← hT]; exact hu3
        simp only [forN]
        rw [hb, hT]
        exact ihk (i + 1) _ (by omega) ⟨(i : Int) :: u, by simp [hu1], rfl⟩ hu3'
    obtain ⟨q', w1, ⟨t', w2, w3⟩, w4⟩ := hloop a.length 0 (s, p ++ t) (by omega) ⟨t, h2, rfl⟩ hs
    refine ⟨t', w2, ?_, ?_⟩
    · refine (congrArg (fun o => Option.bind o _) w1).trans ?_
      rw [w3]
      show some (_, Sum.inl _) = some (_, Sum.inl _)
      have : (ixs a).take a.length = ixs a := by rw [← ixs_len a, List.take_length]
      simp only [T, this]
    · have : (ixs a).take a.length = ixs a := by rw [← ixs_len a, List.take_length]
      rw [w3] at w4
      simp only [T, this] at w4
      exact w4
theorem nj_ {r : Riddle} (g : Good r) {σ τ : Type} {f : List Int → σ → Option (σ ⊕ τ)} {G : σ → List Int → σ} (P : σ → Prop) (hP : ∀ iv s, iv ∈ Wi r → P s → f iv s = some (.inl (G s iv)) ∧ P (G s iv)) (s : σ) (hs : P s) :
    cq_ ⟨r, fb_ r⟩ f s = some (.inl ((Wi r).foldl G s)) ∧ P ((Wi r).foldl G s) := by
  have hn := hv_ g
  have n8 := g.n8
  unfold cq_
  simp only
  rw [mk?_le (by omega) (by omega), Option.bind_some]
  obtain ⟨t', h1, h2, h3⟩ := hints_worlds_2_eq g P hP (fb_ r).length fuel_ [] (List.replicate ((r.Locks.length : Int)).toNat 0) s (by show _ < 1000000; omega) (by rw [List.length_replicate]; omega) (by simp) (by simp) hs
  rw [List.length_nil, List.nil_append] at h2
  rw [show ((0 : Nat) : Int) = 0 from rfl] at h2
  rw [h2, Option.bind_some]
  rw [List.length_nil] at h3
  have e : (((go_ (((fb_ r).drop 0).map ixs)).map (([] : List Int) ++ ·)).filter (tieds r (fb_ r))) = Wi r := by
    simp [Wi]
  rw [e] at h3 ⊢
  exact ⟨rfl, h3⟩
theorem Wi_len {r : Riddle} (hf : fitW r = true) : (Wi r).length ≤ 20000 := by
  have := fit_bd hf
  rw [prodL_cod, List.length_map] at this
  exact Nat.le_trans (List.length_filter_le _ _) this
theorem hints_Worlds_eq (r : Riddle) : hj_ r = some (if st r = 0 then (((Wc r).length : Int), 0) else (0, st r)) := by
  unfold hj_
  rw [fd_, Option.bind_some]
  by_cases h : st r = 0
  · obtain ⟨g, hf⟩ := os_ h
    rw [if_pos h, if_pos h]
    simp only [h]
    rw [if_neg (by simp)]
    rw [Option.bind_some, (nj_ g (G := fun s _ => w64 (s + 1)) (fun _ => True) (fun _ _ _ _ => ⟨rfl, trivial⟩) 0 trivial).1, Option.bind_some]
    have := Wi_len hf
    show some (_, _) = _
    rw [foldl_count _ 0 (by omega) (by omega), Int.zero_add, Wc_Wi, List.length_map]
  · rw [if_neg h, if_neg h, if_pos (by simpa using h)]
end Go.Proofs.Ytlpdpeghgndmkaa.Pad
