/- The law of the losses that Cut finds, over the pure functions. -/
import Derived.Test.YtfeomcdhhgeilaaLawCut
set_option linter.unusedVariables false
set_option linter.unusedSimpArgs false
namespace Go.Proofs.Ytfeomcdhhgeilaa.Pad
open Go

def LexLe : List Int → List Int → Prop
  | [], [] => True
  | a :: e, b :: q => a < b ∨ (a = b ∧ LexLe e q)
  | _, _ => False
theorem LexLe.refl : ∀ q, LexLe q q
  | [] => trivial
  | _ :: q => .inr ⟨rfl, LexLe.refl q⟩
theorem LexLe.first : ∀ {e q : List Int} {i : Nat} {x y : Int}, LexLe e q → (∀ j, j < i → e[j]? = q[j]?) → e[i]? = some x → q[i]? = some y → x ≠ y → x < y
  | [], [], _, _, _, _, _, h, _, _ => by simp at h
  | a :: e, b :: q, 0, x, y, h, _, h1, h2, hn => by
    simp at h1 h2
    subst h1 h2
    rcases h with h | h
    · exact h
    · exact absurd h.1 hn
  | a :: e, b :: q, i + 1, x, y, h, hs, h1, h2, hn => by
    have h0 := hs 0 (by omega)
    simp at h0
    subst h0
    rcases h with h | h
    · omega
    · exact LexLe.first (i := i) h.2 (fun j hj => by simpa using hs (j + 1) (by omega)) (by simpa using h1) (by simpa using h2) hn
theorem inL_cons (x : Int) (q : List Int) (t : Nat) : inL (x :: q) t = (decide (x = (t : Int)) || inL q t) := by
  unfold inL; rw [List.any_cons]

section
variable {p : Panel} {l : List Signal} {d : Nat} {g : Gate}
theorem inL_below {q : List Int} {fr : Nat} (h : ∀ x ∈ q, (fr : Int) < x) : inL q fr = false := by
  unfold inL
  rw [List.any_eq_false]
  intro x hx
  have := h x hx
  simp; omega
/-- What is found opens the door. -/
theorem ext_sound : ∀ {r t c s e}, ext p l d g r t c s = some e → (∀ x ∈ e, (t : Int) ≤ x ∧ x < ((t + r : Nat) : Int)) ∧ (runF p l d g (inL e) r t s).2 = false
  | 0, t, c, s, e, h => by
    unfold ext at h
    split at h
    · rename_i hc; cases h; exact ⟨by simp, hc.2⟩
    · cases h
  | r + 1, t, 0, s, e, h => by
    unfold ext at h
    obtain ⟨h1, h2⟩ := ext_sound h
    refine ⟨fun x hx => by have := h1 x hx; omega, ?_⟩
    unfold runF
    rw [inL_below (fun x hx => by have := h1 x hx; omega)]
    exact h2
  | r + 1, t, c + 1, s, e, h => by
    unfold ext at h
    split at h
    · rename_i e' he
      cases h
      obtain ⟨h1, h2⟩ := ext_sound he
      refine ⟨fun x hx => ?_, ?_⟩
      · rcases List.mem_cons.1 hx with rfl | hx
        · omega
        · have := h1 x hx; omega
      · unfold runF
        rw [inL_cons, decide_eq_true rfl, Bool.true_or]
        rw [runF_congr (f' := inL e') _ _ _ (fun u hu _ => by rw [inL_cons, decide_eq_false (by omega), Bool.false_or])]
        exact h2
    · obtain ⟨h1, h2⟩ := ext_sound h
      refine ⟨fun x hx => by have := h1 x hx; omega, ?_⟩
      unfold runF
      rw [inL_below (fun x hx => by have := h1 x hx; omega)]
      exact h2
/-- What opens the door is not before what is found. -/
theorem ext_complete : ∀ {r t : Nat} {s : DoorSt} {q : List Int}, q.Pairwise (· < ·) → (∀ x ∈ q, (t : Int) ≤ x ∧ x < ((t + r : Nat) : Int)) → (runF p l d g (inL q) r t s).2 = false → ∃ e, ext p l d g r t q.length s = some e ∧ LexLe e q
  | 0, t, s, [], _, _, h => ⟨[], by unfold ext; rw [if_pos ⟨rfl, h⟩], trivial⟩
  | 0, t, s, x :: q, _, hb, _ => by have := hb x (by simp); omega
  | r + 1, t, s, [], _, _, h => by
    unfold runF at h
    rw [show inL [] t = false by rfl] at h
    obtain ⟨e, h1, h2⟩ := ext_complete (r := r) (t := t + 1) (q := []) List.Pairwise.nil (by simp) h
    exact ⟨e, by unfold ext; exact h1, h2⟩
  | r + 1, t, s, x :: q, hp, hb, h => by
    obtain ⟨hx, hq⟩ := List.pairwise_cons.1 hp
    unfold runF at h
    have b0 := hb x (by simp)
    by_cases hxt : x = (t : Int)
    · subst hxt
      rw [inL_cons, decide_eq_true rfl, Bool.true_or, runF_congr (f' := inL q) _ _ _ (fun u hu _ => by rw [inL_cons, decide_eq_false (by omega), Bool.false_or])] at h
      obtain ⟨e, h1, h2⟩ := ext_complete hq (fun y hy => by have := hx y hy; have := hb y (by simp [hy]); omega) h
      refine ⟨(t : Int) :: e, ?_, .inr ⟨rfl, h2⟩⟩
      rw [List.length_cons]
      unfold ext; rw [h1]
    · rw [inL_below (fun y hy => by
        rcases List.mem_cons.1 hy with rfl | hy
        · omega
        · have := hx y hy; omega)] at h
      obtain ⟨e, h1, h2⟩ := ext_complete (r := r) (t := t + 1) hp (fun y hy => by
        rcases List.mem_cons.1 hy with rfl | hy
        · omega
        · have := hx y hy; have := hb y (by simp [hy]); omega) h
      rw [List.length_cons] at h1 ⊢
      unfold ext
      split
      · exact ⟨_, rfl, .inl (by omega)⟩
      · exact ⟨e, h1, h2⟩

theorem legal_with {n : Nat} (hL : Legal p (n : Int) l) (hd : d < p.Doors.length) {q : List Int} (hq : l.length + q.length ≤ 200) (hb : ∀ x ∈ q, 0 ≤ x ∧ x < (n : Int)) : Legal p (n : Int) (withL l d q) := by
  refine ⟨by unfold withL; simp; omega, fun x hx => ?_⟩
  unfold withL at hx
  rcases List.mem_append.1 hx with hx | hx
  · exact hL.2 x hx
  · obtain ⟨y, hy, rfl⟩ := List.mem_map.1 hx
    have := hb y hy
    unfold SigOk lostS
    simp only
    refine ⟨by omega, .inr (.inr (.inl ⟨.inl trivial, by omega, trivial⟩))⟩
theorem legal_losses {n : Nat} {q : List Int} (h : Legal p (n : Int) (withL l d q)) : ∀ x ∈ q, 0 ≤ x ∧ x < (n : Int) := by
  intro x hx
  have := (h.2 (lostS d x) (by unfold withL; exact List.mem_append.2 (.inr (List.mem_map.2 ⟨x, hx, rfl⟩)))).1
  unfold lostS at this
  simp only at this
  omega
end

theorem F14_law (p : Panel) (l : List Signal) (x : Law08_Loss) : F14 p l x = some true := by
  suffices hh : Tot (F14 p l x) (fun r => r = true) by
    obtain ⟨r, e, rfl⟩ := hh; exact e
  unfold F14
  simp only [F16_law, Option.bind_some]
  refine Tot.bind (Sum.elim (fun _ => (1 ≤ x.Ticks ∧ x.Ticks ≤ 8) ∧ l.length ≤ 150 ∧ x.Losses.length ≤ 8) (fun r => r = true)) ?_ ?_
  · refine Tot.ite (fun _ => .pure rfl) fun h1 => Tot.ite (fun _ => .pure rfl) fun h2 => Tot.ite (fun _ => .pure rfl) fun h3 => Tot.ite (fun _ => .pure rfl) fun h4 => .pure ?_
    simp only [decide_eq_true_eq] at h1 h2 h3 h4
    exact ⟨by omega, by omega, by omega⟩
  intro o ho
  refine Tot.onL ho ?_ (fun r hr => hr)
  rintro _ ⟨ht8, hl150, hq8⟩
  refine Tot.bind _ (F41_law p x.Ticks l x.Door) fun r hr => ?_
  rcases hr with ⟨h, rfl⟩ | ⟨h, _, rfl⟩ | ⟨h, _, _, rfl⟩ | ⟨h, hd, h0, g, E, hg, hE, rfl⟩
  · rw [if_pos (by simpa using h)]; exact .pure rfl
  · rw [if_pos (by decide)]; exact .pure rfl
  · rw [if_pos (by decide)]; exact .pure rfl
  rw [if_neg (by simp)]
  obtain ⟨hp, ht, hL⟩ := err_zero h
  obtain ⟨T, D, Q⟩ := x
  simp only at ht8 hq8 h hd h0 hg hE ht hL ⊢
  obtain ⟨d, rfl⟩ : ∃ d : Nat, D = (d : Int) := ⟨D.toNat, by omega⟩
  obtain ⟨n, rfl⟩ : ∃ n : Nat, T = (n : Int) := ⟨T.toNat, by omega⟩
  simp only [Int.toNat_natCast] at hg hE
  have hn : n ≤ 1000 := by omega
  have hdl := (List.getElem?_eq_some_iff.1 hg).1
  have hi := lst_init (p := p) (l := l) (d := d) (g := g) n 0
  have hbnd := lst_bound (p := p) (l := l) (d := d) (g := g) n 0 (0, false)
  have elen := ext_len hE
  obtain ⟨s1, s2⟩ := ext_sound hE
  -- the end of a play with losses
  have last : ∀ q : List Int, l.length + q.length ≤ 200 → (∀ y ∈ q, 0 ≤ y ∧ y < (n : Int)) → ∃ rows row, F17 p (n : Int) (withL l d q) = some (rows, 0) ∧ rows.length = n ∧ at? rows (w64 ((n : Int) - 1)) = some row ∧ F19 row (d : Int) = some (runF p l d g (inL q) n 0 (0, false)).2 := by
    intro q hq hb
    have hLq := legal_with (q := q) hL hdl hq hb
    obtain ⟨⟨rows, e⟩, h1, h2, h3, _⟩ := F17_err p (n : Int) (withL l d q)
    have he := err_ok hp ht hLq
    rw [he] at h2
    simp only at h2
    subst h2
    have hR := h3 he
    have hlen : rows.length = n := by have := hR.1; simpa using this
    obtain ⟨row, hrow⟩ : ∃ row, rows[n - 1]? = some row := ⟨_, List.getElem?_eq_getElem (by omega)⟩
    refine ⟨rows, row, h1, hlen, ?_, ?_⟩
    · rw [w64_eq (by omega) (by omega)]
      exact at?_of (by omega) (by rw [show ((n : Int) - 1).toNat = n - 1 by omega]; exact hrow)
    · rw [bit_law (hR.2 _ row hrow) hp hg, ← run_with, show n - 1 + 1 = n by omega]
  have lastAny : ∀ q : List Int, l.length + q.length ≤ 200 → ¬(∀ y ∈ q, 0 ≤ y ∧ y < (n : Int)) → ∃ rows e, F17 p (n : Int) (withL l d q) = some (rows, e) ∧ e ≠ 0 := by
    intro q hq hb
    obtain ⟨⟨rows, e⟩, h1, h2, _, _⟩ := F17_err p (n : Int) (withL l d q)
    refine ⟨rows, e, h1, fun he => ?_⟩
    simp only at h2
    obtain ⟨_, _, hLq⟩ := err_zero (h2.symm.trans he)
    exact hb (legal_losses hLq)
  rw [F18_eq (by omega)]
  simp only [Option.bind_some]
  obtain ⟨rows, row, e1, e2, e3, e4⟩ := last E (by omega) (fun y hy => by have := s1 y hy; omega)
  rw [e1]
  simp only [Option.bind_some]
  rw [if_neg (by decide), if_neg (by simp [e2]), e3]
  simp only [Option.bind_some]
  rw [e4, s2]
  simp only [Option.bind_some]
  rw [if_neg (by decide)]
  simp only [Option.bind_some]
  refine Tot.onL (I := fun _ => True) (E := fun _ => False) trivial (fun _ _ => ?_) (fun _ h => h.elim)
  -- whether they rise
  refine Tot.bind (Sum.elim (fun _ => ∀ (i : Nat) a b, Q[i]? = some a → Q[i + 1]? = some b → a < b) (fun r => r = true)) ?_ ?_
  · refine whileO_inv (fun j (s : Int) => s = ((1 + j : Nat) : Int) ∧ ∀ (i : Nat) a b, i < j → Q[i]? = some a → Q[i + 1]? = some b → a < b) _ (Q.length - 1) 0 _ ⟨rfl, fun i a b hi => by omega⟩ ?_ ?_
    · rintro j s _ hj ⟨rfl, hI⟩
      obtain ⟨b, hb⟩ : ∃ b, Q[j + 1]? = some b := ⟨_, List.getElem?_eq_getElem (by omega)⟩
      obtain ⟨a, ha⟩ : ∃ a, Q[j]? = some a := ⟨_, List.getElem?_eq_getElem (by omega)⟩
      rw [if_pos (by simp; omega), at?_nat, show 1 + j = j + 1 by omega, hb]
      simp only [Option.bind_some]
      rw [w64_eq (by omega) (by omega), show (((j + 1 : Nat) : Int) - 1) = (j : Int) by omega, at?_nat, ha]
      simp only [Option.bind_some]
      by_cases hc : b ≤ a
      · rw [if_pos (by simpa using hc)]
        exact .inr ⟨_, rfl, rfl⟩
      · rw [if_neg (by simpa using hc)]
        refine .inl ⟨_, rfl, by rw [w64_eq (by omega) (by omega)]; omega, fun i a' b' hi h1 h2 => ?_⟩
        rcases Nat.lt_succ_iff_lt_or_eq.1 hi with h' | rfl
        · exact hI i a' b' h' h1 h2
        · rw [ha] at h1; rw [hb] at h2; cases h1; cases h2; omega
    · rintro s ⟨rfl, hI⟩
      refine ⟨.inl ((1 + (0 + (Q.length - 1)) : Nat) : Int), by rw [if_neg (by simp; omega)], fun i a b h1 h2 => ?_⟩
      have := (List.getElem?_eq_some_iff.1 h2).1
      exact hI i a b (by omega) h1 h2
  intro o ho
  refine Tot.onL ho ?_ (fun r hr => hr)
  rintro _ hrise
  have hpw : Q.Pairwise (· < ·) := by
    have gen : ∀ (Q : List Int), (∀ (i : Nat) a b, Q[i]? = some a → Q[i + 1]? = some b → a < b) → Q.Pairwise (· < ·) := by
      intro Q
      induction Q with
      | nil => intro _; exact List.Pairwise.nil
      | cons y Q ih =>
        intro hr
        have ih' := ih (fun i a b h1 h2 => hr (i + 1) a b (by simpa using h1) (by simpa using h2))
        refine List.pairwise_cons.2 ⟨fun z hz => ?_, ih'⟩
        cases Q with
        | nil => simp at hz
        | cons w Q =>
          have h0 := hr 0 y w rfl rfl
          rcases List.mem_cons.1 hz with rfl | hz
          · exact h0
          · have := (List.pairwise_cons.1 ih').1 z hz
            omega
    exact gen Q hrise
  rw [F18_eq (by omega)]
  simp only [Option.bind_some]
  by_cases hb : ∀ y ∈ Q, 0 ≤ y ∧ y < (n : Int)
  case neg =>
    obtain ⟨rows2, e', f1, f2⟩ := lastAny Q (by omega) hb
    rw [f1]
    simp only [Option.bind_some]
    rw [if_pos (by simpa using f2)]
    exact .pure rfl
  obtain ⟨rows2, row2, f1, f2, f3, f4⟩ := last Q (by omega) hb
  rw [f1]
  simp only [Option.bind_some]
  refine Tot.bind (Sum.elim (fun _ => ∃ e, ext p l d g n 0 Q.length (0, false) = some e ∧ LexLe e Q) (fun r => r = true)) ?_ ?_
  · rw [if_neg (by simp), if_neg (by simp [f2]), f3]
    simp only [Option.bind_some]
    rw [f4]
    simp only [Option.bind_some]
    cases hs : (runF p l d g (inL Q) n 0 (0, false)).2 with
    | true => rw [if_pos rfl]; exact .pure rfl
    | false =>
      rw [if_neg (by decide)]
      exact .pure (ext_complete hpw (fun y hy => by have := hb y hy; omega) hs)
  intro o ho
  refine Tot.onL ho ?_ (fun r hr => hr)
  rintro _ ⟨e', he', hlex⟩
  have hle := lst_le he'
  rw [if_neg (by simp; omega)]
  refine Tot.bind (Sum.elim (fun _ => True) (fun r => r = true)) ?_ ?_
  case refine_2 =>
    intro o ho
    exact Tot.onL ho (fun _ _ => .pure rfl) (fun r hr => hr)
  by_cases heq : E.length = Q.length
  case neg =>
    refine ⟨.inl 0, whileO_inr ?_, trivial⟩
    have : ((E.length : Int) == (Q.length : Int)) = false := by simp; omega
    rw [this]
    split <;> rfl
  have hee : E = e' := by
    rw [← heq, elen, hE] at he'
    exact Option.some.inj he'
  subst hee
  refine whileO_inv (fun j (s : Int) => s = (j : Int) ∧ ∀ i, i < j → E[i]? = Q[i]?) _ E.length 0 _ ⟨rfl, fun i hi => by omega⟩ ?_ ?_
  · rintro j s _ hj ⟨rfl, hI⟩
    obtain ⟨a, ha⟩ : ∃ a, E[j]? = some a := ⟨_, List.getElem?_eq_getElem (by omega)⟩
    obtain ⟨b, hb⟩ : ∃ b, Q[j]? = some b := ⟨_, List.getElem?_eq_getElem (by omega)⟩
    have ea : at? E (j : Int) = some a := by rw [at?_nat]; exact ha
    have eb : at? Q (j : Int) = some b := by rw [at?_nat]; exact hb
    rw [if_pos (by simp; omega), if_pos (by simp [heq])]
    simp only [Option.bind_some, onL]
    rw [ea, eb]
    simp only [Option.bind_some]
    by_cases hc : a = b
    · rw [if_neg (by simpa using hc)]
      refine .inl ⟨_, rfl, by rw [w64_eq (by omega) (by omega)]; omega, fun i hi => ?_⟩
      rcases Nat.lt_succ_iff_lt_or_eq.1 hi with h' | rfl
      · exact hI i h'
      · rw [ha, hb, hc]
    · rw [if_pos (by simpa using hc), if_pos (by simpa using LexLe.first hlex hI ha hb hc)]
      exact .inr ⟨_, rfl, rfl⟩
  · rintro s ⟨rfl, _⟩
    refine ⟨.inl ((0 + E.length : Nat) : Int), ?_, trivial⟩
    rw [if_neg (by simp)]; rfl
end Go.Proofs.Ytfeomcdhhgeilaa.Pad
