/- Possible, Sure, Secret: the law holds. -/
import Derived.Test.YtlpdpeghgndmkaaLawHK
set_option linter.unusedVariables false
set_option linter.unusedSimpArgs false
namespace Go.Proofs.Ytlpdpeghgndmkaa.Pad
open Go
theorem poss_mem {r : Riddle} (g : Good r) {i : Nat} {l : CodeLock} (hl : r.Locks[i]? = some l) {c : List Int} (h : c ∈ poss r i) : cm_ l c = true := by
  obtain ⟨l', _, k, e1, e2, e3, a, b, d, e, f, z⟩ := g.at_ (lt_of_get? hl)
  rw [hl] at e1
  obtain rfl := Option.some.inj e1
  rw [ns_ z] at h
  exact ((rdg_mem a).1 (List.mem_filter.1 h).1).1
noncomputable def secP (ps : List (List Int)) (w : Nat) : Bool := ps.any fun c => decide (c[w]? ≠ (ps[0]?.getD [])[w]?)
theorem hints_Secret_eq (r : Riddle) (i : Int) : ∃ s, hg_ r i = some s ∧ ref07_Secret r i = some s ∧ s.2 = posE r i ∧ (posE r i = 0 → ∃ l, r.Locks[i.toNat]? = some l ∧ s.1 = idxs (secP (poss r i.toNat)) l.Wheels.toNat) := by
  unfold hg_ ref07_Secret
  rw [ly_, Option.bind_some, ref07_Possible_eq, Option.bind_some]
  by_cases h : posE r i = 0
  rotate_left
  · refine ⟨([], posE r i), ?_, ?_, rfl, fun q => absurd q h⟩
    · rw [if_neg h, if_pos (by simpa using h)]
    · rw [if_neg h, if_pos (by simpa using h)]
  obtain ⟨hs, h0, h1⟩ := posE_zero h
  obtain ⟨g, hf⟩ := jm_ hs
  have hi : i.toNat < r.Locks.length := by omega
  obtain ⟨l, c, k, e1, e2, e3, a, b, d, e, f, z⟩ := g.at_ hi
  have w1 := a.w1; have w2 := a.w2
  obtain ⟨W, hW⟩ : ∃ W : Nat, l.Wheels = (W : Int) := ⟨l.Wheels.toNat, by omega⟩
  have hps : ∀ c ∈ poss r i.toNat, c.length = W := fun c hc => by have := (dn_.1 (poss_mem g e1 hc)).1; omega
  refine ⟨(idxs (secP (poss r i.toNat)) W, 0), ?_, ?_, h.symm, fun _ => ⟨l, e1, by rw [hW]; rfl⟩⟩
  · simp only [h]
    rw [if_neg (by simp), if_pos trivial, Option.bind_some, ih_ g, Option.bind_some, fe_ h0 (iv_ hi), Option.bind_some, fe_ h0 e1, Option.bind_some, hW, cnt?_le (by omega), Option.bind_some, Int.toNat_natCast]
    generalize poss r i.toNat = ps at hps
    rw [forS_pick (p := secP ps) (by omega) (by
      intro j s hj
      rw [any_ints (p := fun c => decide (c[j]? ≠ (ps[0]?.getD [])[j]?)) (by
        intro x hx
        have hx' := hps x hx
        obtain ⟨y, hy⟩ := br_ (l := ps) (i := 0) (List.length_pos_of_mem hx)
        have hy' := hps y (List.mem_of_getElem? hy)
        obtain ⟨u, hu⟩ := br_ (l := x) (i := j) (by omega)
        obtain ⟨v, hv⟩ := br_ (l := y) (i := j) (by omega)
        unfold ip_
        rw [bk_ hu, Option.bind_some, show at? ps 0 = some y from bk_ hy, Option.bind_some, bk_ hv, Option.bind_some, hy, hu]
        by_cases huv : u = v <;> simp [huv, hv]), Option.bind_some]
      rfl), Option.bind_some]
  · simp only [h]
    rw [if_neg (by simp), if_pos trivial]
    have hb := poss_bd g i.toNat
    generalize poss r i.toNat = ps at hps hb
    have hw := whileO_ix (σ := List Int × Int) (ρ := List Int × Int) (n := W) (F := fun j => (idxs (secP ps) j, (j : Int))) (r := (idxs (secP ps) W, (W : Int))) (body := fun s4 =>
       (at? r.Locks i).bind fun x57 =>
       if decide (s4.2 < x57.Wheels) then
       ((forS (σ := (Bool)) (fun i4 s5 =>
       if s5 then
       (some true)
       else
       ((at? ps (i4 : Int)).bind fun x70 =>
       (at? x70 s4.2).bind fun x71 =>
       (at? ps 0).bind fun x72 =>
       (at? x72 s4.2).bind fun x73 =>
       some (x71 != x73))) ps.length 0 false).bind fun out5 =>
       if out5 then
       ((push? s4.1 ([s4.2] : List Int)).bind fun x74 =>
       some (Sum.inl (x74, w64 (s4.2 + 1))))
       else
       (some (Sum.inl (s4.1, w64 (s4.2 + 1)))))
       else
       (some (Sum.inr (s4.1, s4.2)))) (by
      intro j hj
      simp only
      rw [fe_ h0 e1, Option.bind_some, if_pos (by rw [hW]; simp; omega)]
      have l3 := gl_ (k := ps.length) (fun q => (ps.take q).any fun c => decide (c[j]? ≠ (ps[0]?.getD [])[j]?)) (body := fun i4 s5 =>
         if s5 then
         (some true)
         else
         ((at? ps (i4 : Int)).bind fun x70 =>
         (at? x70 (j : Int)).bind fun x71 =>
         (at? ps 0).bind fun x72 =>
         (at? x72 (j : Int)).bind fun x73 =>
         some (x71 != x73))) (by
        intro q hq
        obtain ⟨x, hx⟩ := br_ hq
        have hx' := hps x (List.mem_of_getElem? hx)
        obtain ⟨y, hy⟩ := br_ (l := ps) (i := 0) (by omega)
        have hy' := hps y (List.mem_of_getElem? hy)
        obtain ⟨u, hu⟩ := br_ (l := x) (i := j) (by omega)
        obtain ⟨v, hv⟩ := br_ (l := y) (i := j) (by omega)
        rw [kn_ hx, List.any_append]
        cases hany : (ps.take q).any fun c => decide (c[j]? ≠ (ps[0]?.getD [])[j]?)
        · rw [if_neg (by simp), bk_ hx, Option.bind_some, bk_ hu, Option.bind_some, show at? ps 0 = some y from bk_ hy, Option.bind_some, bk_ hv, Option.bind_some, hy]
          by_cases huv : u = v <;> simp [huv, hu, hv]
        · rfl)
      rw [List.take_length] at l3
      refine (congrArg (fun o => Option.bind o _) (show forS (σ := Bool) _ ps.length 0 false = _ from l3)).trans ?_
      rw [Option.bind_some, idxs_succ, eb_ (by omega) (by omega)]
      have := idxs_len (secP ps) j
      show (if secP ps j = true then _ else _) = _
      cases hsp : secP ps j
      · rfl
      · rw [if_pos rfl, if_pos rfl, cx_ (by rw [List.length_singleton]; omega)]
        rfl) (by
      simp only
      rw [fe_ h0 e1, Option.bind_some, if_neg (by rw [hW]; simp)])
    refine (congrArg (fun o => Option.bind o _) (show ef_ (σ := List Int × Int) (ρ := List Int × Int) _ ([], 0) = _ from hw)).trans ?_
    rfl
end Go.Proofs.Ytlpdpeghgndmkaa.Pad
