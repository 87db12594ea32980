/- The program's own lists and counts of the readings. -/
import Derived.Test.YtlpdpeghgndmkaaGreatLawZC
set_option linter.unusedVariables false
set_option linter.unusedSimpArgs false
namespace Go.Proofs.YtlpdpeghgndmkaaGreat.Pad
open Go
theorem kf_ (l : CodeLock) (cl : List Clue) : ee_ l cl = some (if okL l then (if 20 < cl.length then 2 else if cl.all (db_ l) then 0 else 11) else 10) := by
  unfold ee_
  rw [le_, Option.bind_some]
  by_cases h : okL l = true
  · rw [h]
    have hl := hn_.1 h
    rw [any_clue (p := fun c => !db_ l c) (fun x _ => by unfold fn_; rw [kx_ hl]; rfl)]
    by_cases h20 : 20 < cl.length
    · rw [if_pos h20]
      simp [h20]
      intro h; omega
    · rw [if_neg h20]
      simp only [Option.bind_some, bne_self_eq_false, Bool.false_eq_true, if_false, if_true]
      rw [if_neg (by simp; omega), List.all_eq_not_any_not]
      cases cl.any fun c => !db_ l c <;> rfl
  · have h' : okL l = false := by simpa using h
    rw [h']; rfl
theorem nf_ {l : CodeLock} (hl : Lk l) {cl : List Clue} {code : List Int} (hc : ∀ c ∈ cl, db_ l c = true) (hk : co_ l code = true) : ∃ r, im_ cl code = some r ∧ (decide (r < 0) = cl.all (tr · code)) := by
  have := idxF_spec (l := cl) (f := fun x0_ => gf_ x0_ code) (p := fun c => !tr c code) (fun x hx => by unfold gf_; rw [tr_holds hl (hc x hx) hk]; rfl)
  obtain ⟨r, h1, h2⟩ := this
  refine ⟨r, ?_, ?_⟩
  · unfold im_
    rw [show df_ cl (fun x0_ => gf_ x0_ code) = some r from h1]; rfl
  · rw [List.all_eq_not_any_not]
    rcases h2 with ⟨rfl, h⟩ | ⟨h0, h⟩
    · rw [h]; rfl
    · rw [h, decide_eq_false (by omega)]; rfl
theorem codes_Fits_eq {l : CodeLock} (hl : Lk l) {cl : List Clue} {code : List Int} (hn : cl.length ≤ 20) (hc : ∀ c ∈ cl, db_ l c = true) (hk : co_ l code = true) : ∃ r, lx_ l cl code = some (r, cl.all (tr · code), 0) := by
  obtain ⟨r, h1, h2⟩ := nf_ hl hc hk
  refine ⟨r, ?_⟩
  unfold lx_
  rw [kf_, hn_.2 hl, if_pos rfl, if_neg (by omega), if_pos (List.all_eq_true.2 hc), Option.bind_some, hz_, hn_.2 hl, if_pos rfl, hk, h1]
  simp [h2]
theorem set_here {p : List Int} {x y : Int} {t : List Int} : (p ++ x :: t).set p.length y = p ++ y :: t := by
  rw [List.set_append_right _ _ (Nat.le_refl _), Nat.sub_self]; rfl
theorem me_ {p : List Int} {x : Int} {t : List Int} : at? (p ++ x :: t) ((p.length : Nat) : Int) = some x := by
  rw [pc_, List.getElem?_append_right (Nat.le_refl _), Nat.sub_self]; rfl
theorem ou_ {l : CodeLock} (hl : Lk l) {cl : List Clue} (hn : cl.length ≤ 20) (hc : ∀ c ∈ cl, db_ l c = true) : ∀ (m n : Nat) (p : List Int) (acc : List (List Int)), m < n → ((p.length + m : Nat) : Int) = l.Wheels → (∀ x ∈ p, 0 ≤ x ∧ x ≤ l.Symbols - 1) → acc.length + l.Symbols.toNat ^ m ≤ 10000 →
    cz_ n (p.length : Int) (p ++ List.replicate m 0) l cl acc = some (p ++ List.replicate m 0, acc ++ ((fd_ l.Symbols.toNat m).map (p ++ ·)).filter fun c => cl.all (tr · c)) := by
  have w1 := hl.w1; have w2 := hl.w2; have s1 := hl.s1; have s2 := hl.s2
  obtain ⟨S, hS⟩ : ∃ S : Nat, l.Symbols = (S : Int) := ⟨l.Symbols.toNat, by omega⟩
  intro m
  induction m with
  | zero =>
    intro n p acc h1 h2 h3 h4
    obtain ⟨n, rfl⟩ : ∃ k, n = k + 1 := ⟨n - 1, by omega⟩
    unfold cz_
    rw [List.replicate_zero, List.append_nil, if_pos (by simp)]
    obtain ⟨r, hr⟩ := codes_Fits_eq hl hn hc (code := p) (fg_.2 ⟨by simpa using h2, h3⟩)
    rw [hr, Option.bind_some]
    simp only [fd_, List.map_cons, List.map_nil, List.append_nil]
    unfold cm_
    cases hp : cl.all (tr · p)
    · simp [hp]
    · rw [if_pos rfl, eu_ (by simp; omega), Option.bind_some, List.nil_append, eu_ (by simp; omega)]
      simp [hp]
  | succ m ih =>
    intro n p acc h1 h2 h3 h4
    obtain ⟨n, rfl⟩ : ∃ k, n = k + 1 := ⟨n - 1, by omega⟩
    unfold cz_
    rw [hS, Int.toNat_natCast] at h4
    rw [if_neg (by simp; omega), List.replicate_succ, me_, Option.bind_some, Int.toNat_natCast, set_here]
    have hpos : 0 < S ^ m := Nat.pow_pos (by omega)
    let T : Nat → List (List Int) := fun k => (List.range k).flatMap fun (x : Nat) => (fd_ S m).map fun c => (x : Int) :: c
    have hT : ∀ k, T (k + 1) = T k ++ (fd_ S m).map fun c => (k : Int) :: c := fun k => by
      show (List.range (k + 1)).flatMap _ = _
      rw [List.range_succ, List.flatMap_append]
      simp [T]
    have hTl : ∀ k, (T k).length = k * S ^ m := fun k => by
      show ((List.range k).flatMap _).length = _
      rw [flat_len (m := S ^ m) _ (fun x _ => by rw [List.length_map, jl_]), List.length_range]
    have hw := whileO_ix (σ := List Int × List (List Int)) (ρ := List Int × List (List Int)) (n := S) (F := fun k => (p ++ (k : Int) :: List.replicate m 0, acc ++ ((T k).map (p ++ ·)).filter fun c => cl.all (tr · c)))
      (body := fun s1 => (at? s1.1 (p.length : Int)).bind fun x29 =>
        if decide (x29 < l.Symbols) then
        ((cz_ n (w64 ((p.length : Int) + 1)) s1.1 l cl s1.2).bind fun x30 =>
        (at? x30.1 (p.length : Int)).bind fun x31 =>
        (at? x30.1 (p.length : Int)).bind fun x32 =>
        some (Sum.inl (x30.1.set ((p.length : Int)).toNat (w64 (x31 + 1)), x30.2)))
        else
        (some (Sum.inr (s1.1, s1.2)))) (r := (p ++ (S : Int) :: List.replicate m 0, acc ++ ((T S).map (p ++ ·)).filter fun c => cl.all (tr · c))) (by
      intro k hk
      simp only
      rw [me_, Option.bind_some, if_pos (by rw [hS]; simp; omega), dz_ (by omega) (by omega)]
      have hb := List.length_filter_le (fun c => cl.all (tr · c)) ((T k).map (p ++ ·))
      rw [List.length_map, hTl] at hb
      have hm : k * S ^ m + S ^ m ≤ S ^ (m + 1) := by
        rw [← Nat.succ_mul, Nat.pow_succ, Nat.mul_comm (S ^ m) S]
        exact Nat.mul_le_mul_right _ hk
      have := ih n (p ++ [(k : Int)]) (acc ++ ((T k).map (p ++ ·)).filter fun c => cl.all (tr · c)) (by omega) (by rw [List.length_append, ← h2]; simp; omega) (by
        intro x hx
        rcases List.mem_append.1 hx with hx | hx
        · exact h3 x hx
        · rw [List.mem_singleton.1 hx]; omega) (by rw [hS, Int.toNat_natCast, List.length_append]; omega)
      rw [List.length_append, List.append_assoc] at this
      rw [show ((p.length : Int) + 1) = ((p.length + [(k : Int)].length : Nat) : Int) by simp]
      rw [show p ++ (k : Int) :: List.replicate m 0 = p ++ ([(k : Int)] ++ List.replicate m 0) from rfl, this, Option.bind_some]
      simp only [List.singleton_append]
      rw [me_, Option.bind_some, Option.bind_some, Int.toNat_natCast, set_here, dz_ (by omega) (by omega), hT]
      simp [hS, List.append_assoc, Function.comp_def]) (by
      simp only
      rw [me_, Option.bind_some, if_neg (by rw [hS]; simp)])
    refine (congrArg (fun o => Option.bind o _) (show er_ _ _ = _ from by simpa [T] using hw)).trans ?_
    rw [Option.bind_some]
    simp only
    rw [me_, Option.bind_some, set_here, hS, Int.toNat_natCast]
    rfl
theorem hints_readings_eq {l : CodeLock} (hl : Lk l) {cl : List Clue} (hn : cl.length ≤ 20) (hc : ∀ c ∈ cl, db_ l c = true) : fh_ l cl = some (rdg l cl) := by
  have w1 := hl.w1; have w2 := hl.w2
  unfold fh_
  rw [mk?_le (by omega) (by omega), Option.bind_some]
  have := ou_ hl hn hc l.Wheels.toNat fuel_ [] [] (by show _ < 1000000; omega) (by simp; omega) (by simp) (by simpa using pow_bd hl)
  simp only [List.nil_append, List.length_nil, Int.natCast_zero, Nat.zero_add] at this
  rw [this, Option.bind_some]
  simp [rdg]
theorem odo {l : CodeLock} (hl : Lk l) {S : Nat} (hS : l.Symbols = (S : Int)) : ∀ (W j k : Nat), W ≤ 4 → ∃ out : List Int × Int,
    er_ (σ := (List Int × Int)) (ρ := (List Int × Int)) (fun s15 => if decide (0 ≤ s15.2) then ((at? s15.1 s15.2).bind fun x117 => if x117 == (w64 (l.Symbols - 1)) then ((at? s15.1 s15.2).bind fun x118 => some (Sum.inl (s15.1.set (s15.2).toNat 0, w64 (s15.2 - 1)))) else (some (Sum.inr (s15.1, s15.2)))) else (some (Sum.inr (s15.1, s15.2)))) (dig S W j ++ List.replicate k 0, (W : Int) - 1) = some out ∧
    (j + 1 = S ^ W → out.2 < 0) ∧ (j + 1 < S ^ W → 0 ≤ out.2 ∧ ∃ x, at? out.1 out.2 = some x ∧ out.1.set out.2.toNat (w64 (x + 1)) = dig S W (j + 1) ++ List.replicate k 0) := by
  have s1 := hl.s1; have s2 := hl.s2
  intro W
  induction W with
  | zero =>
    intro j k _
    refine ⟨_, lg_ (r := (dig S 0 j ++ List.replicate k 0, (0 : Int) - 1)) (by rw [if_neg (by simp)]; rfl), fun _ => by simp, fun h => ?_⟩
    simp at h
  | succ W ih =>
    intro j k hW
    have hd : dig S (W + 1) j ++ List.replicate k 0 = dig S W (j / S) ++ ((j % S : Nat) : Int) :: List.replicate k 0 := by rw [dig, List.append_assoc]; rfl
    have hlen := dig_len S W (j / S)
    have hg : at? (dig S W (j / S) ++ ((j % S : Nat) : Int) :: List.replicate k 0) ((W : Nat) : Int) = some ((j % S : Nat) : Int) := by
      have := me_ (p := dig S W (j / S)) (x := ((j % S : Nat) : Int)) (t := List.replicate k 0)
      rwa [hlen] at this
    have hse : ∀ y : Int, (dig S W (j / S) ++ ((j % S : Nat) : Int) :: List.replicate k 0).set W y = dig S W (j / S) ++ y :: List.replicate k 0 := fun y => by
      have := set_here (p := dig S W (j / S)) (x := ((j % S : Nat) : Int)) (y := y) (t := List.replicate k 0)
      rwa [hlen] at this
    have hmod : j % S < S := Nat.mod_lt _ (by omega)
    have hdm := Nat.div_add_mod j S
    rw [hd, show ((W + 1 : Nat) : Int) - 1 = (W : Int) by omega]
    by_cases h9 : j % S = S - 1
    · obtain ⟨out, e1, e2, e3⟩ := ih (j / S) (k + 1) (by omega)
      have hj1 : j + 1 = S * (j / S + 1) := by rw [Nat.mul_add, Nat.mul_one]; omega
      refine ⟨out, ?_, fun h => e2 ?_, fun h => ?_⟩
      · rw [← e1]
        refine whileO_inl ?_
        simp only
        rw [if_pos (by simp), hg, Option.bind_some, if_pos (by rw [hl.ws, hS]; simp; omega), Option.bind_some, Int.toNat_natCast, hse, dz_ (by omega) (by omega)]
        rfl
      · rw [Nat.pow_succ, Nat.mul_comm] at h
        rw [hj1] at h
        exact Nat.eq_of_mul_eq_mul_left (by omega) h
      · have : j / S + 1 < S ^ W := by
          rw [Nat.pow_succ, Nat.mul_comm, hj1] at h
          exact Nat.lt_of_mul_lt_mul_left h
        obtain ⟨f1, x, f2, f3⟩ := e3 this
        refine ⟨f1, x, f2, ?_⟩
        rw [f3, dig, hj1, Nat.mul_div_cancel_left _ (by omega), Nat.mul_mod_right, List.append_assoc]
        rfl
    · refine ⟨_, lg_ (r := (dig S W (j / S) ++ ((j % S : Nat) : Int) :: List.replicate k 0, (W : Int))) (by
        simp only
        rw [if_pos (by simp), hg, Option.bind_some, if_neg (by rw [hl.ws, hS]; simp; omega)]), fun h => ?_, fun h => ⟨by simp, _, hg, ?_⟩⟩
      · exfalso
        have : (j + 1) % S = 0 := by rw [h, Nat.pow_succ]; exact Nat.mul_mod_left _ _
        have h2 : (j + 1) % S = j % S + 1 := by rw [Nat.add_mod, Nat.mod_eq_of_lt (show 1 < S by omega), Nat.mod_eq_of_lt (by omega)]
        omega
      · simp only [Int.toNat_natCast]
        rw [hse, dz_ (by omega) (by omega), dig, List.append_assoc]
        have h2 : (j + 1) % S = j % S + 1 := by rw [Nat.add_mod, Nat.mod_eq_of_lt (show 1 < S by omega), Nat.mod_eq_of_lt (by omega)]
        have h3 : (j + 1) / S = j / S := by
          refine Nat.div_eq_of_lt_le ?_ ?_
          · rw [Nat.mul_comm]; omega
          · rw [Nat.mul_comm, Nat.mul_add]; omega
        rw [h2, h3]
        simp
theorem ne_ {l : CodeLock} (hl : Lk l) {σ τ : Type} {f : List Int → σ → Option (σ ⊕ τ)} {g : σ → List Int → σ} (hf : ∀ c s, co_ l c = true → f c s = some (.inl (g s c))) (s : σ) : dp_ f l s = some (.inl ((fd_ l.Symbols.toNat l.Wheels.toNat).foldl g s)) := by
  have w1 := hl.w1; have w2 := hl.w2; have s1 := hl.s1; have s2 := hl.s2
  obtain ⟨W, hW⟩ : ∃ W : Nat, l.Wheels = (W : Int) := ⟨l.Wheels.toNat, by omega⟩
  obtain ⟨S, hS⟩ : ∃ S : Nat, l.Symbols = (S : Int) := ⟨l.Symbols.toNat, by omega⟩
  have hSp : 0 < S := by omega
  have hN : 0 < S ^ W := Nat.pow_pos hSp
  have hok : ∀ j, j < S ^ W → co_ l (dig S W j) = true := fun j hj => (codes_ok hl).1 (by rw [hW, hS, Int.toNat_natCast, Int.toNat_natCast]; exact List.mem_of_getElem? (ly_ hSp W j hj))
  have hz : List.replicate W (0 : Int) = dig S W 0 := by
    have h : ∀ W, dig S W 0 = List.replicate W 0 := by
      intro W
      induction W with
      | zero => rfl
      | succ W ih => rw [dig, Nat.zero_div, Nat.zero_mod, ih, List.replicate_succ']; rfl
    exact (h W).symm
  unfold dp_
  rw [hW, hS, Int.toNat_natCast, Int.toNat_natCast, mk?_le (by omega) (by omega), Option.bind_some, Int.toNat_natCast, hz]
  have hw := whileO_ix (σ := σ × List Int) (ρ := (σ × List Int) ⊕ (σ ⊕ τ)) (n := S ^ W - 1) (F := fun j => (((fd_ S W).take j).foldl g s, dig S W j)) (r := .inr (.inl ((fd_ S W).foldl g s)))
    (body := fun s13 => (f s13.2 s13.1).bind fun x104 => sm x104 (fun s14 =>
     (er_ (σ := (List Int × Int)) (ρ := (List Int × Int)) (fun s15 =>
     if decide (0 ≤ s15.2) then
     ((at? s15.1 s15.2).bind fun x117 =>
     if x117 == (w64 (l.Symbols - 1)) then
     ((at? s15.1 s15.2).bind fun x118 =>
     some (Sum.inl (s15.1.set (s15.2).toNat 0, w64 (s15.2 - 1))))
     else
     (some (Sum.inr (s15.1, s15.2))))
     else
     (some (Sum.inr (s15.1, s15.2)))) (s13.2, w64 ((W : Int) - 1))).bind fun out8 =>
     if decide (out8.2 < 0) then
     (some (Sum.inr (Sum.inr (Sum.inl s14))))
     else
     ((at? out8.1 out8.2).bind fun x119 =>
     (at? out8.1 out8.2).bind fun x120 =>
     some (Sum.inl (s14, out8.1.set (out8.2).toNat (w64 (x119 + 1)))))) fun q1687 =>
     some (Sum.inr (Sum.inr (Sum.inr q1687)))) (by
      intro j hj
      obtain ⟨out, o1, o2, o3⟩ := odo hl hS W j 0 (by omega)
      simp only [List.replicate_zero, List.append_nil] at o1 o3
      obtain ⟨p1, x, p2, p3⟩ := o3 (by omega)
      simp only
      rw [hf _ _ (hok j (by omega)), Option.bind_some]
      simp only [sm]
      rw [dz_ (n := (W : Int) - 1) (by omega) (by omega), o1, Option.bind_some, if_neg (by simp; omega), p2, Option.bind_some, Option.bind_some, p3, foldlS (ly_ hSp W j (by omega))]) (by
      obtain ⟨out, o1, o2, o3⟩ := odo hl hS W (S ^ W - 1) 0 (by omega)
      simp only [List.replicate_zero, List.append_nil] at o1
      have p1 := o2 (by omega)
      simp only
      rw [hf _ _ (hok (S ^ W - 1) (by omega)), Option.bind_some]
      simp only [sm]
      rw [dz_ (n := (W : Int) - 1) (by omega) (by omega), o1, Option.bind_some, if_pos (by simp; omega), ← foldlS (f := g) (ly_ hSp W (S ^ W - 1) (by omega)), show S ^ W - 1 + 1 = (fd_ S W).length by rw [jl_]; omega, List.take_length])
  rw [← hS]
  refine (congrArg (fun o => Option.bind o _) (show er_ _ _ = _ from by simpa using hw)).trans ?_
  rfl
theorem lw_ {l : CodeLock} (hl : Lk l) {cl : List Clue} (hc : ∀ c ∈ cl, db_ l c = true) {σ τ : Type} {f : List Int → σ → Option (σ ⊕ τ)} {g : σ → List Int → σ} (hf : ∀ c s, co_ l c = true → f c s = some (.inl (g s c))) (s : σ) : cs_ f l cl s = some (.inl ((rdg l cl).foldl g s)) := by
  unfold cs_ gt_
  rw [Option.bind_some, ne_ hl (g := fun s c => if cl.all (tr · c) then g s c else s) (by
    intro c s hk
    obtain ⟨r, r1, r2⟩ := nf_ hl hc hk
    rw [r1, Option.bind_some, r2]
    cases cl.all (tr · c)
    · rfl
    · rw [if_pos rfl, hf c s hk]; rfl), Option.bind_some]
  show some (Sum.inl _) = some (Sum.inl _)
  congr 2
  unfold rdg
  rw [List.foldl_filter]
theorem foldl_count {α : Type} (l : List α) (n : Int) (h0 : 0 ≤ n) (h : n + l.length ≤ 100000) : l.foldl (fun s _ => w64 (s + 1)) n = n + l.length := by
  induction l generalizing n with
  | nil => simp
  | cons x l ih =>
    rw [List.length_cons] at h
    rw [List.foldl_cons, dz_ (by omega) (by omega), ih (n + 1) (by omega) (by omega), List.length_cons]
    omega
theorem codes_Count_eq {l : CodeLock} (hl : Lk l) {cl : List Clue} (hn : cl.length ≤ 20) (hc : ∀ c ∈ cl, db_ l c = true) : io_ l cl = some (((rdg l cl).length : Int), 0) := by
  unfold io_ gs_ ex_
  rw [kf_, hn_.2 hl, if_pos rfl, if_neg (by omega), if_pos (List.all_eq_true.2 hc), Option.bind_some, Option.bind_some, lw_ hl hc (g := fun s _ => w64 (s + 1)) (fun c s _ => rfl), Option.bind_some]
  have := rdg_bd hl cl
  show (Option.bind (some _) _) = _
  rw [foldl_count _ 0 (by omega) (by omega), Int.zero_add]
  rfl
end Go.Proofs.YtlpdpeghgndmkaaGreat.Pad
