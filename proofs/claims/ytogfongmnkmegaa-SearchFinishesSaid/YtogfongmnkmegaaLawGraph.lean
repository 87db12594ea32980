/- Valid maps: both Checks answer alike. -/
import Derived.Test.YtogfongmnkmegaaSeaXP
import Derived.Test.YtogfongmnkmegaaPadL
set_option linter.unusedVariables false
namespace Go.Proofs.Ytogfongmnkmegaa.Pad
open Go Go.Proofs
def ix {α : Type} (z : α) (l : List α) (i : Int) : α := (l[i.toNat]?).getD z
theorem ce_ {α : Type} (z : α) {l : List α} {i : Int} (h0 : 0 ≤ i) (h : i < l.length) : at? l i = some (ix z l i) := by
  obtain ⟨x, h1, h2⟩ := jo_ h0 h
  rw [h1]; unfold ix; rw [h2]; rfl
theorem eh_ {α : Type} (z : α) {l : List α} {i : Int} (h0 : 0 ≤ i) (h : i < l.length) : ix z l i ∈ l := by
  obtain ⟨x, h1, h2⟩ := jo_ h0 h
  unfold ix; rw [h2]; exact List.mem_of_getElem? h2
theorem gx_ {α : Type} (z : α) {l : List α} {x : α} (h : x ∈ l) : ∃ i : Nat, i < l.length ∧ ix z l (i : Int) = x := by
  obtain ⟨i, hi, rfl⟩ := List.mem_iff_getElem.1 h
  exact ⟨i, hi, by unfold ix; simp [hi]⟩
theorem eg_ {α : Type} (z : α) {l : List α} {i : Nat} (h : i < l.length) : ix z l (i : Int) = l[i] := by
  unfold ix; simp [h]
abbrev ba_ (E : List (List Edge)) (p : Int) : List Edge := ix [] E p
abbrev dA (d : List Int) (p : Int) : Int := ix 0 d p
def Want (d : List Int) (r : List Edge) (v : Int) : Prop :=
  ((∀ e ∈ r, dA d e.To < 0) ∧ v = -1) ∨ ∃ e ∈ r, 0 ≤ dA d e.To ∧ v = dA d e.To + 1 ∧ ∀ e' ∈ r, 0 ≤ dA d e'.To → dA d e.To ≤ dA d e'.To
def ia_ (n : Nat) (r : List Edge) : Prop := r.length ≤ 100 ∧ ∀ e ∈ r, 0 ≤ e.To ∧ e.To < n
structure MShape (g : Graph) (d : List Int) : Prop where
  n1 : 1 ≤ g.Positions.length
  n2 : g.Positions.length ≤ 300
  el : g.Edges.length = g.Positions.length
  dl : d.length = g.Positions.length
structure GoodMap (g : Graph) (d : List Int) : Prop extends MShape g d where
  row : ∀ r ∈ g.Edges, ia_ g.Positions.length r
  dist : ∀ p : Nat, p < g.Positions.length → dA d p = 0 ∨ Want d (ba_ g.Edges p) (dA d p)
  bnd : ∀ v ∈ d, -1 ≤ v ∧ v < g.Positions.length
def ie_ (d : List Int) (s : Int) (e : Edge) : Int :=
  if 0 ≤ dA d e.To then (if s < 0 then dA d e.To else if dA d e.To < s then dA d e.To else s) else s
def hf_ (d : List Int) (s : Int) (e : Edge) : Int := if dA d e.To != -1 then ko_ s (dA d e.To) else s
def gy_ (d : List Int) (r : List Edge) : Int := r.foldl (ie_ d) (-1)
def fe_ (d : List Int) (r : List Edge) : Int := r.foldl (hf_ d) 1099511627776
def gr_ (d : List Int) (r : List Edge) : Int := if 0 ≤ gy_ d r then w64 (gy_ d r + 1) else -1
def jk_ (d : List Int) (r : List Edge) : Int := if fe_ d r = 1099511627776 then -1 else fe_ d r
def he_ (d : List Int) (r : List Edge) : Int := if jk_ d r ≠ -1 then w64 (jk_ d r + 1) else jk_ d r
theorem kr_ {α β : Type} (f : β → α → β) (l : List α) (x : α) (b : β) : (l ++ [x]).foldl f b = f (l.foldl f b) x := by simp
theorem fl_ (d : List Int) (r : List Edge) :
    ((∀ e ∈ r, dA d e.To < 0) ∧ gy_ d r = -1) ∨ (∃ e ∈ r, 0 ≤ dA d e.To ∧ gy_ d r = dA d e.To ∧ ∀ e' ∈ r, 0 ≤ dA d e'.To → dA d e.To ≤ dA d e'.To) := by
  unfold gy_
  suffices h : ∀ (s : Int) (q : List Edge) (t : List Edge), 
      (((∀ e ∈ q, dA d e.To < 0) ∧ s = -1) ∨ (∃ e ∈ q, 0 ≤ dA d e.To ∧ s = dA d e.To ∧ ∀ e' ∈ q, 0 ≤ dA d e'.To → dA d e.To ≤ dA d e'.To)) →
      (((∀ e ∈ q ++ t, dA d e.To < 0) ∧ t.foldl (ie_ d) s = -1) ∨ (∃ e ∈ q ++ t, 0 ≤ dA d e.To ∧ t.foldl (ie_ d) s = dA d e.To ∧ ∀ e' ∈ q ++ t, 0 ≤ dA d e'.To → dA d e.To ≤ dA d e'.To)) by
    simpa using h (-1) [] r (.inl ⟨by simp, rfl⟩)
  intro s q t
  induction t generalizing s q with
  | nil => intro h; simpa using h
  | cons x t ih =>
    intro h
    have := ih (ie_ d s x) (q ++ [x]) (by
      unfold ie_
      rcases h with ⟨h1, h2⟩ | ⟨e, h1, h2, h3, h4⟩
      · subst h2
        split
        · refine .inr ⟨x, by simp, by assumption, by simp, ?_⟩
          intro e' he' hx
          simp only [List.mem_append, List.mem_singleton] at he'
          rcases he' with he' | rfl
          · have := h1 e' he'; omega
          · omega
        · refine .inl ⟨?_, rfl⟩
          intro e he
          simp only [List.mem_append, List.mem_singleton] at he
          rcases he with he | rfl
          · exact h1 e he
          · omega
      · rw [if_neg (by omega : ¬ s < 0)]
        by_cases hx : 0 ≤ dA d x.To
        · rw [if_pos hx]
          by_cases hy : dA d x.To < s
          · rw [if_pos hy]
            refine .inr ⟨x, by simp, hx, rfl, ?_⟩
            intro e' he' hz
            simp only [List.mem_append, List.mem_singleton] at he'
            rcases he' with he' | rfl
            · have := h4 e' he' hz; omega
            · omega
          · rw [if_neg hy]
            refine .inr ⟨e, by simp [h1], h2, h3, ?_⟩
            intro e' he' hz
            simp only [List.mem_append, List.mem_singleton] at he'
            rcases he' with he' | rfl
            · exact h4 e' he' hz
            · omega
        · rw [if_neg hx]
          refine .inr ⟨e, by simp [h1], h2, h3, ?_⟩
          intro e' he' hz
          simp only [List.mem_append, List.mem_singleton] at he'
          rcases he' with he' | rfl
          · exact h4 e' he' hz
          · omega)
    simpa using this
theorem minI_eq (a b : Int) : (ko_ a b = a ∧ a ≤ b) ∨ (ko_ a b = b ∧ b ≤ a) := by
  unfold ko_; split <;> omega
theorem gz_ (d : List Int) (r : List Edge) :
    fe_ d r ≤ 1099511627776 ∧ (∀ e ∈ r, dA d e.To = -1 ∨ fe_ d r ≤ dA d e.To) ∧ (fe_ d r = 1099511627776 ∨ ∃ e ∈ r, dA d e.To ≠ -1 ∧ fe_ d r = dA d e.To) := by
  unfold fe_
  suffices h : ∀ (s : Int) (q : List Edge) (t : List Edge), 
      (s ≤ 1099511627776 ∧ (∀ e ∈ q, dA d e.To = -1 ∨ s ≤ dA d e.To) ∧ (s = 1099511627776 ∨ ∃ e ∈ q, dA d e.To ≠ -1 ∧ s = dA d e.To)) →
      (t.foldl (hf_ d) s ≤ 1099511627776 ∧ (∀ e ∈ q ++ t, dA d e.To = -1 ∨ t.foldl (hf_ d) s ≤ dA d e.To) ∧ (t.foldl (hf_ d) s = 1099511627776 ∨ ∃ e ∈ q ++ t, dA d e.To ≠ -1 ∧ t.foldl (hf_ d) s = dA d e.To)) by
    simpa using h 1099511627776 [] r ⟨by omega, by simp, .inl rfl⟩
  intro s q t
  induction t generalizing s q with
  | nil => intro h; simpa using h
  | cons x t ih =>
    intro ⟨h0, h1, h2⟩
    have := ih (hf_ d s x) (q ++ [x]) (by
      unfold hf_
      by_cases hx : dA d x.To = -1
      · rw [if_neg (by simp [hx])]
        refine ⟨h0, ?_, ?_⟩
        · intro e he
          simp only [List.mem_append, List.mem_singleton] at he
          rcases he with he | rfl
          · exact h1 e he
          · exact .inl hx
        · rcases h2 with h2 | ⟨e, he, h2⟩
          · exact .inl h2
          · exact .inr ⟨e, by simp [he], h2⟩
      · rw [if_pos (by simpa using hx)]
        rcases minI_eq s (dA d x.To) with ⟨hm, hle⟩ | ⟨hm, hle⟩
        · rw [hm]
          refine ⟨h0, ?_, ?_⟩
          · intro e he
            simp only [List.mem_append, List.mem_singleton] at he
            rcases he with he | rfl
            · exact h1 e he
            · exact .inr hle
          · rcases h2 with h2 | ⟨e, he, h2⟩
            · exact .inl h2
            · exact .inr ⟨e, by simp [he], h2⟩
        · rw [hm]
          refine ⟨by omega, ?_, .inr ⟨x, by simp, hx, rfl⟩⟩
          intro e he
          simp only [List.mem_append, List.mem_singleton] at he
          rcases he with he | rfl
          · rcases h1 e he with h | h
            · exact .inl h
            · exact .inr (by omega)
          · exact .inr (by omega))
    simpa using this
theorem hy_ (d : List Int) (h : ∀ v ∈ d, 0 < v → v - 1 ∈ d) : ∀ v ∈ d, v < d.length := by
  have key : ∀ (k : Nat) (v : Int), v ∈ d → v = k → ∀ j : Nat, j ≤ k → j + 1 ≤ d.countP (fun x => decide (x ≤ (j : Int))) - d.countP (fun x => decide (x < 0)) + 0 := by
    intro k
    induction k with
    | zero =>
      intro v hv hk j hj
      have hj0 : j = 0 := by omega
      subst hj0
      have h1 : d.countP (fun x => decide (x < 0)) + d.countP (fun x => decide (x = 0)) = d.countP (fun x => decide (x ≤ ((0 : Nat) : Int))) := by
        clear h hv
        induction d with
        | nil => rfl
        | cons a d ih =>
          simp only [List.countP_cons, decide_eq_true_eq]
          split <;> split <;> split <;> omega
      have h2 : 0 < d.countP (fun x => decide (x = 0)) := List.countP_pos_iff.2 ⟨v, hv, by simpa using hk⟩
      omega
    | succ k ih =>
      intro v hv hk j hj
      have h3 := h v hv (by omega)
      by_cases hjk : j ≤ k
      · exact ih (v - 1) h3 (by omega) j hjk
      · have hjk : j = k + 1 := by omega
        subst hjk
        have h4 := ih (v - 1) h3 (by omega) k (Nat.le_refl _)
        have h1 : d.countP (fun x => decide (x ≤ (k : Int))) + d.countP (fun x => decide (x = ((k + 1 : Nat) : Int))) = d.countP (fun x => decide (x ≤ ((k + 1 : Nat) : Int))) := by
          clear h hv h3 h4 ih
          induction d with
          | nil => rfl
          | cons a d ih =>
            simp only [List.countP_cons, decide_eq_true_eq]
            split <;> split <;> split <;> omega
        have h2 : 0 < d.countP (fun x => decide (x = ((k + 1 : Nat) : Int))) := List.countP_pos_iff.2 ⟨v, hv, by simpa using hk⟩
        omega
  intro v hv
  by_cases h0 : 0 ≤ v
  · have := key v.toNat v hv (by omega) v.toNat (Nat.le_refl _)
    have h5 : d.countP (fun x => decide (x ≤ (v.toNat : Int))) ≤ d.length := List.countP_le_length
    omega
  · omega
theorem la_ (x : Int) : -9223372036854775808 ≤ w64 x ∧ w64 x ≤ 9223372036854775807 := by
  unfold w64; rw [IntKind.wrap_i64]; omega
def RV_ (g : Graph) (d : List Int) : Prop := MShape g d ∧ (∀ r ∈ g.Edges, ia_ g.Positions.length r) ∧ ∀ p : Nat, p < g.Positions.length → dA d p = 0 ∨ dA d p = gr_ d (ba_ g.Edges p)
def LV_ (g : Graph) (d : List Int) : Prop := MShape g d ∧ (∀ r ∈ g.Edges, ia_ g.Positions.length r) ∧ ∀ p : Nat, p < g.Positions.length → dA d p = 0 ∨ dA d p = he_ d (ba_ g.Edges p)
theorem dn_ {g : Graph} {p : Int} (h0 : 0 ≤ p) (h : p < g.Edges.length) : ba_ g.Edges p ∈ g.Edges := eh_ _ h0 h
theorem lg_ {g : Graph} {d : List Int} : RV_ g d ↔ GoodMap g d := by
  constructor
  · intro ⟨sh, hr, hd⟩
    have n1 := sh.n1; have n2 := sh.n2; have el := sh.el; have dl := sh.dl
    have hrng : ∀ v ∈ d, v = 0 ∨ (-9223372036854775808 ≤ v ∧ v ≤ 9223372036854775807) := by
      intro v hv
      obtain ⟨p, hp, rfl⟩ := gx_ 0 hv
      rcases hd p (by omega) with h | h
      · exact .inl h
      · right
        show -9223372036854775808 ≤ dA d p ∧ dA d p ≤ _
        rw [h]; unfold gr_; split
        · exact la_ _
        · omega
    have hto : ∀ p : Nat, p < g.Positions.length → ∀ e ∈ ba_ g.Edges p, dA d e.To ∈ d := by
      intro p hp e he
      have := (hr _ (dn_ (g := g) (p := p) (by omega) (by omega))).2 e he
      exact eh_ _ this.1 (by omega)
    have hpos : ∀ v ∈ d, 0 < v → v - 1 ∈ d := by
      intro v hv h0
      obtain ⟨p, hp, rfl⟩ := gx_ 0 hv
      change dA d p - 1 ∈ d
      change 0 < dA d p at h0
      rcases hd p (by omega) with h | h
      · omega
      · unfold gr_ at h
        rcases fl_ d (ba_ g.Edges p) with ⟨h1, h2⟩ | ⟨e, he, h1, h2, h3⟩
        · rw [h2, if_neg (by omega)] at h; omega
        · rw [h2, if_pos h1] at h
          have hm := hto p (by omega) e he
          have hb := hrng _ hm
          by_cases hbig : dA d e.To = 9223372036854775807
          · rw [hbig] at h
            have : w64 (9223372036854775807 + 1) = -9223372036854775808 := by unfold w64; rw [IntKind.wrap_i64]; omega
            omega
          · rw [ci_ (by omega) (by omega)] at h
            rw [h]; simpa using hm
    have hlt := hy_ d hpos
    have hw : ∀ p : Nat, p < g.Positions.length → dA d p = 0 ∨ Want d (ba_ g.Edges p) (dA d p) := by
      intro p hp
      rcases hd p hp with h | h
      · exact .inl h
      · right
        unfold gr_ at h
        rcases fl_ d (ba_ g.Edges p) with ⟨h1, h2⟩ | ⟨e, he, h1, h2, h3⟩
        · rw [h2, if_neg (by omega)] at h; exact .inl ⟨h1, h⟩
        · rw [h2, if_pos h1] at h
          have hm := hlt _ (hto p hp e he)
          rw [ci_ (by omega) (by omega)] at h
          exact .inr ⟨e, he, h1, h, h3⟩
    refine { toMShape := sh, row := hr, dist := hw, bnd := ?_ }
    intro v hv
    have h1 := hlt v hv
    obtain ⟨p, hp, rfl⟩ := gx_ 0 hv
    refine ⟨?_, by omega⟩
    rcases hw p (by omega) with h | ⟨_, h⟩ | ⟨e, _, _, h, _⟩
    · change -1 ≤ dA d p; omega
    · change -1 ≤ dA d p; omega
    · change -1 ≤ dA d p; omega
  · intro hg
    refine ⟨hg.toMShape, hg.row, ?_⟩
    have el := hg.el; have dl := hg.dl; have n2 := hg.n2
    intro p hp
    rcases hg.dist p hp with h | h
    · exact .inl h
    · right
      unfold gr_
      rcases fl_ d (ba_ g.Edges p) with ⟨h1, h2⟩ | ⟨e, he, h1, h2, h3⟩
      · rcases h with ⟨_, h⟩ | ⟨e, he, h, _⟩
        · rw [h2, if_neg (by omega), h]
        · have := h1 e he; omega
      · rcases h with ⟨h, _⟩ | ⟨e', he', h5, h6, h7⟩
        · have := h e he; omega
        · have a := h3 e' he' h5
          have b := h7 e he h1
          have hm : dA d e.To ∈ d := eh_ _ ((hg.row _ (dn_ (by omega) (by omega))).2 e he).1 (by have := ((hg.row _ (dn_ (by omega) (by omega))).2 e he).2; omega)
          have := hg.bnd _ hm
          rw [h2, if_pos h1, ci_ (by omega) (by omega)]; omega
theorem lu_ {g : Graph} {d : List Int} : LV_ g d ↔ GoodMap g d := by
  constructor
  · intro ⟨sh, hr, hd⟩
    have n1 := sh.n1; have n2 := sh.n2; have el := sh.el; have dl := sh.dl
    have hrng : ∀ v ∈ d, v = 0 ∨ (-9223372036854775808 ≤ v ∧ v ≤ 9223372036854775807) := by
      intro v hv
      obtain ⟨p, hp, rfl⟩ := gx_ 0 hv
      rcases hd p (by omega) with h | h
      · exact .inl h
      · right
        show -9223372036854775808 ≤ dA d p ∧ dA d p ≤ _
        rw [h]; unfold he_; split
        · exact la_ _
        · rename_i h; simp only [ne_eq, Decidable.not_not] at h; omega
    have hto : ∀ p : Nat, p < g.Positions.length → ∀ e ∈ ba_ g.Edges p, dA d e.To ∈ d := by
      intro p hp e he
      have := (hr _ (dn_ (g := g) (p := p) (by omega) (by omega))).2 e he
      exact eh_ _ this.1 (by omega)
    have hcase : ∀ p : Nat, p < g.Positions.length → dA d p ≠ 0 →
        (dA d p = -1 ∧ ∀ e ∈ ba_ g.Edges p, dA d e.To = -1 ∨ 1099511627776 ≤ dA d e.To) ∨
        ∃ e ∈ ba_ g.Edges p, dA d e.To ≠ -1 ∧ dA d p = dA d e.To + 1 ∧ ∀ e' ∈ ba_ g.Edges p, dA d e'.To = -1 ∨ dA d e.To ≤ dA d e'.To := by
      intro p hp h0
      rcases hd p hp with h | h
      · omega
      · have ⟨a, b, c⟩ := gz_ d (ba_ g.Edges p)
        unfold he_ jk_ at h
        rcases c with c | ⟨e, he, c1, c2⟩
        · rw [c, if_pos rfl, if_neg (by omega)] at h
          refine .inl ⟨h, ?_⟩
          rw [c] at b; exact b
        · by_cases hbig : fe_ d (ba_ g.Edges p) = 1099511627776
          · rw [hbig, if_pos rfl, if_neg (by omega)] at h
            refine .inl ⟨h, ?_⟩
            rw [hbig] at b; exact b
          · rw [if_neg hbig, if_pos (by omega), c2] at h
            have hm := hrng _ (hto p hp e he)
            rw [ci_ (by omega) (by omega)] at h
            exact .inr ⟨e, he, c1, h, by rw [c2] at b; exact b⟩
    have hlow : ∀ v ∈ d, -1 ≤ v := by
      intro v hv
      by_cases hlt : -1 ≤ v
      · exact hlt
      · exfalso
        have step : ∀ k : Nat, v - k ∈ d := by
          intro k
          induction k with
          | zero => simpa using hv
          | succ k ih =>
            obtain ⟨p, hp, hpe⟩ := gx_ 0 ih
            change dA d p = _ at hpe
            rcases hcase p (by omega) (by omega) with ⟨h, _⟩ | ⟨e, he, _, h, _⟩
            · omega
            · have := hto p (by omega) e he
              rw [show v - ((k + 1 : Nat) : Int) = dA d e.To by omega]; exact this
        have := hrng _ (step 9223372036854775808)
        omega
    have hpos : ∀ v ∈ d, 0 < v → v - 1 ∈ d := by
      intro v hv h0
      obtain ⟨p, hp, rfl⟩ := gx_ 0 hv
      change dA d p - 1 ∈ d
      change 0 < dA d p at h0
      rcases hcase p (by omega) (by omega) with ⟨h, _⟩ | ⟨e, he, _, h, _⟩
      · omega
      · have := hto p (by omega) e he
        rw [h]; simpa using this
    have hlt := hy_ d hpos
    refine { toMShape := sh, row := hr, dist := ?_, bnd := fun v hv => ⟨hlow v hv, by have := hlt v hv; omega⟩ }
    intro p hp
    by_cases h0 : dA d p = 0
    · exact .inl h0
    · right
      rcases hcase p hp h0 with ⟨h, h'⟩ | ⟨e, he, h1, h2, h3⟩
      · refine .inl ⟨?_, h⟩
        intro e he
        have := hlt _ (hto p hp e he)
        rcases h' e he with h | h <;> omega
      · refine .inr ⟨e, he, ?_, h2, ?_⟩
        · have := hlow _ (hto p hp e he); omega
        · intro e' he' h5
          rcases h3 e' he' with h | h <;> omega
  · intro hg
    refine ⟨hg.toMShape, hg.row, ?_⟩
    have el := hg.el; have dl := hg.dl; have n2 := hg.n2
    intro p hp
    have hm : ∀ e ∈ ba_ g.Edges p, -1 ≤ dA d e.To ∧ dA d e.To < 300 := by
      intro e he
      have h1 := (hg.row _ (dn_ (by omega) (by omega))).2 e he
      have := hg.bnd _ (eh_ 0 (l := d) h1.1 (by omega))
      change -1 ≤ dA d e.To ∧ dA d e.To < _ at this
      omega
    rcases hg.dist p hp with h | h
    · exact .inl h
    · right
      have ⟨a, b, c⟩ := gz_ d (ba_ g.Edges p)
      unfold he_ jk_
      rcases h with ⟨h1, h2⟩ | ⟨e, he, h1, h2, h3⟩
      · rcases c with c | ⟨e, he, c1, c2⟩
        · rw [c, if_pos rfl, if_neg (by omega), h2]
        · have := h1 e he; have := hm e he; omega
      · have hme := hm e he
        rcases b e he with b1 | b1
        · omega
        · rcases c with c | ⟨e', he', c1, c2⟩
          · omega
          · have := hm e' he'
            have h4 := h3 e' he' (by omega)
            have hnb : ¬ fe_ d (ba_ g.Edges p) = 1099511627776 := by omega
            rw [if_neg hnb, if_pos (by omega), ci_ (by omega) (by omega)]; omega
end Go.Proofs.Ytogfongmnkmegaa.Pad
