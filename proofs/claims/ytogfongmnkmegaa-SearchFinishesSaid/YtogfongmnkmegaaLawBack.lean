/- The player's way back: a search in breadth. -/
import Derived.Test.YtogfongmnkmegaaLawRBack
set_option linter.unusedVariables false
namespace Go.Proofs.Ytogfongmnkmegaa.Pad
open Go Go.Proofs
theorem ch_ {K V : Type} [DecidableEq K] (m : List (K × V)) (k k' : K) (v : V) : mget? (fq_ m k v) k' = if k' = k then some v else mget? m k' := by
  induction m with
  | nil => simp [fq_, mget?]
  | cons x m ih =>
    obtain ⟨a, u⟩ := x
    unfold fq_
    by_cases h : k = a
    · subst h
      rw [if_pos rfl]
      unfold mget?
      by_cases h' : k' = k <;> simp [h']
    · rw [if_neg h]
      unfold mget?
      by_cases h' : k' = a
      · subst h'
        have : ¬k' = k := fun e => h e.symm
        simp [this]
      · rw [if_neg h', if_neg h', ih]
theorem hz_ (f g : Nat → Bool) (r : Nat) (h1 : f r = false) (h2 : g r = true) (h3 : ∀ q, q ≠ r → g q = f q) : ∀ n, r < n → (List.range n).countP g = (List.range n).countP f + 1 := by
  have hlow : ∀ n, n ≤ r → (List.range n).countP g = (List.range n).countP f := by
    intro n hn
    apply List.countP_congr
    intro q hq
    rw [h3 q (by have := List.mem_range.1 hq; omega)]
  intro n
  induction n with
  | zero => intro h; omega
  | succ n ih =>
    intro h
    rw [List.range_succ, List.countP_append, List.countP_append]
    by_cases hr : r = n
    · subst hr
      rw [hlow r (Nat.le_refl _)]; simp [h1, h2]
    · rw [ih (by omega)]
      have := h3 n (fun e => hr e.symm)
      simp only [List.countP_singleton, this]; omega
def knS (M : List Search_gone) (p i : Int) : Bool := decide ((⟨p, i⟩ : Search_gone) ∈ M)
theorem nv_ (a : Search_player) (p i : Int) : F86 a p i = some (knS a.memory p i) := by
  unfold F86 F89 F90
  rw [dr_ (p := fun y => decide ((⟨p, i⟩ : Search_gone) = y)) (out := fun i => (i : Int)) (fun i hi => by
    rw [de_ hi, Option.bind_some]
    split <;> rfl)]
  have := ei_ (fun y => decide ((⟨p, i⟩ : Search_gone) = y)) a.memory
  unfold knS
  rcases this with ⟨_, h1, h2⟩ | ⟨j, hj, _, h1, h2, _⟩
  · rw [h1]
    have : (⟨p, i⟩ : Search_gone) ∉ a.memory := fun hx => by have := h2 _ hx; simp at this
    simp [onL, this]
  · rw [h1]
    have : (⟨p, i⟩ : Search_gone) ∈ a.memory := by simp at h2; exact h2 ▸ List.getElem_mem hj
    simp [onL, this]
theorem nx_ {a : Search_player} {p : Int} (h0 : 0 ≤ p) (h1 : p < a.view.edges.length) (hr : (ba_ a.view.edges p).length ≤ 100) (ht : 0 ≤ a.Mind.Turn) (ht' : a.Mind.Turn ≤ 99) :
    F80 a p = some (ey_ a.view.edges (knS a.memory) p a.Mind.Turn) := by
  unfold F80
  rw [ce_ [] h0 h1, Option.bind_some]
  have := dr_ (ρ := Int) (p := fun i : Nat => !knS a.memory p ((a.Mind.Turn + i) % ((ba_ a.view.edges p).length : Int))) (l := List.range (ba_ a.view.edges p).length)
    (out := fun i => (a.Mind.Turn + (i : Int)) % ((ba_ a.view.edges p).length : Int)) (body := fun i1 s1 =>
       (md a.Mind.Turn ((ba_ a.view.edges p).length : Int)).bind fun x8 =>
       (md (w64 (x8 + (i1 : Int))) ((ba_ a.view.edges p).length : Int)).bind fun x9 =>
       (F86 a p x9).bind fun x10 =>
       if !x10 then (some (Sum.inr x9)) else (some (Sum.inl ()))) (fun i hi => by
    simp only [List.length_range] at hi
    have hm := Int.emod_lt_of_pos a.Mind.Turn (b := ((ba_ a.view.edges p).length : Int)) (by omega)
    have hm' := Int.emod_nonneg a.Mind.Turn (b := ((ba_ a.view.edges p).length : Int)) (by omega)
    rw [lt_ (by omega), Option.bind_some, Int.tmod_eq_emod_of_nonneg (by omega), ci_ (by omega) (by omega), lt_ (by omega), Option.bind_some, Int.tmod_eq_emod_of_nonneg (by omega), Int.emod_add_emod, nv_, Option.bind_some]
    simp only [List.getElem_range]
    split <;> rfl)
  rw [List.length_range] at this
  change Option.bind (forN _ _ _ _) _ = _
  rw [this, Option.bind_some]
  unfold ey_
  cases (List.range (ba_ a.view.edges p).length).findIdx? (fun i : Nat => !knS a.memory p ((a.Mind.Turn + i) % ((ba_ a.view.edges p).length : Int))) <;> rfl
abbrev gp_ := List (Int × Search_way)
structure BI (E : List (List Edge)) (kn : Int → Int → Bool) (p : Int) (W : gp_) (Q : List Int) : Prop where
  hp : ∃ w, mget? W p = some w ∧ w.steps = 0
  di : ∀ q w, mget? W q = some w → (0 ≤ q ∧ q < E.length) ∧ ∃ k : Nat, w.steps = k ∧ Di E kn k p q
  qin : ∀ q ∈ Q, ∃ w, mget? W q = some w
  nd : Q.Nodup
  fe : ∀ q w, mget? W q = some w → q ≠ p → kn p w.edge = true ∧ ∃ k : Nat, w.steps = ((k + 1 : Nat) : Int) ∧ Wk E kn k (nx E p w.edge) q
  pw : Q.Pairwise (fun a b => ∀ wa wb, mget? W a = some wa → mget? W b = some wb → wa.steps ≤ wb.steps)
def Cl (E : List (List Edge)) (kn : Int → Int → Bool) (p : Int) (W : gp_) (q : Int) (w : Search_way) (i : Int) : Prop :=
  ∃ w', mget? W (nx E q i) = some w' ∧ (w'.steps = w.steps + 1 → w'.edge ≤ if q = p then i else w.edge)
structure BO (E : List (List Edge)) (kn : Int → Int → Bool) (p : Int) (W : gp_) (Q : List Int) : Prop extends BI E kn p W Q where
  srt : ∀ x t wx, Q = x :: t → mget? W x = some wx → (∀ q ∈ t, ∀ w, mget? W q = some w → wx.steps ≤ w.steps ∧ w.steps ≤ wx.steps + 1) ∧ ∀ q w, mget? W q = some w → q ∉ Q → w.steps ≤ wx.steps
  cl : ∀ q w, mget? W q = some w → q ∉ Q → ∀ i, kn q i = true → Cl E kn p W q w i
def kd_ (n : Nat) (W : gp_) : Nat := (List.range n).countP (fun q : Nat => cv_ W (q : Int))
theorem mb_ (n : Nat) (W : gp_) : kd_ n W ≤ n := by
  have := List.countP_le_length (l := List.range n) (p := fun q : Nat => cv_ W (q : Int))
  simpa [kd_] using this
theorem kc_ {n : Nat} {W : gp_} {r : Int} {w : Search_way} (h0 : 0 ≤ r) (h1 : r < n) (h : mget? W r = none) : kd_ n (fq_ W r w) = kd_ n W + 1 := by
  unfold kd_
  refine hz_ _ _ r.toNat ?_ ?_ ?_ n (by omega)
  · rw [Int.toNat_of_nonneg h0]; unfold cv_; rw [h]; rfl
  · rw [Int.toNat_of_nonneg h0]; unfold cv_; rw [ch_, if_pos rfl]; rfl
  · intro q hq; unfold cv_; rw [ch_, if_neg (by omega)]
theorem my_ {n : Nat} {W : gp_} {r : Int} {w u : Search_way} (h : mget? W r = some u) : kd_ n (fq_ W r w) = kd_ n W := by
  unfold kd_
  apply List.countP_congr
  intro q hq
  unfold cv_
  rw [ch_]
  by_cases hr : (q : Int) = r
  · rw [if_pos hr, hr, h]; simp
  · rw [if_neg hr]
section
variable {E : List (List Edge)} {kn : Int → Int → Bool} {p : Int}
theorem BO.all {W : gp_} {x : Int} {t : List Int} (h : BO E kn p W (x :: t)) {wx : Search_way} (hx : mget? W x = some wx) : ∀ (j : Nat) (q : Int), Wk E kn j p q → (j : Int) ≤ wx.steps → ∃ w, mget? W q = some w := by
  intro j
  induction j with
  | zero => intro q hw _; rw [← hw.zero]; obtain ⟨w, h1, _⟩ := h.hp; exact ⟨w, h1⟩
  | succ j ih =>
    intro q hw hj
    obtain ⟨r, i, h1, h2, rfl⟩ := hw.unsnoc
    obtain ⟨w, h3⟩ := ih r h1 (by omega)
    have ⟨_, k, h4, h5⟩ := h.di r w h3
    have hkj : k ≤ j := by
      apply Classical.byContradiction
      intro hgt
      exact h5.2 j (by omega) h1
    have hq : r ∉ x :: t := by
      intro hm
      rcases List.mem_cons.1 hm with rfl | hm
      · rw [hx] at h3; cases h3; omega
      · have := ((h.srt x t wx rfl hx).1 r hm w h3).1; omega
    obtain ⟨w', h6, _⟩ := h.cl r w h3 hq i h2
    exact ⟨w', h6⟩
structure II (E : List (List Edge)) (kn : Int → Int → Bool) (p : Int) (W : gp_) (x : Int) (t : List Int) (wx : Search_way) (j : Nat) (W' : gp_) (N : List Int) : Prop extends BI E kn p W' (x :: t ++ N) where
  tl : ∀ q ∈ N, ∀ w, mget? W' q = some w → w.steps = wx.steps + 1
  ext : ∀ q w, mget? W q = some w → ∃ w', mget? W' q = some w' ∧ w'.steps = w.steps ∧ w'.edge ≤ w.edge ∧ (w.steps ≤ wx.steps → w' = w)
  new : ∀ q w, mget? W' q = some w → mget? W q = none → q ∈ N
  dn : ∀ i : Nat, i < j → kn x i = true → Cl E kn p W' x wx i
theorem Cl.mono {W W' : gp_} {q : Int} {w : Search_way} {i : Int} (h : Cl E kn p W q w i) (e : ∀ q w, mget? W q = some w → ∃ w', mget? W' q = some w' ∧ w'.steps = w.steps ∧ w'.edge ≤ w.edge) : Cl E kn p W' q w i := by
  obtain ⟨w1, h1, h2⟩ := h
  obtain ⟨w2, h3, h4, h5⟩ := e _ _ h1
  exact ⟨w2, h3, fun hs => by have := h2 (by omega); omega⟩
theorem BO.next {W : gp_} {x : Int} {t : List Int} (h : BO E kn p W (x :: t)) {wx : Search_way} (hx : mget? W x = some wx) {j : Nat} {W' : gp_} {N : List Int}
    (hj : j = (ba_ E x).length) (hk : me_ E kn) (h' : II E kn p W x t wx j W' N) : BO E kn p W' (t ++ N) := by
  have hxk : mget? W' x = some wx := by
    obtain ⟨w', h1, _, _, h2⟩ := h'.ext x wx hx
    rw [h1, h2 (by omega)]
  have hmem : ∀ q w, mget? W' q = some w → q ∉ t ++ N → q = x ∨ (mget? W q = some w ∧ q ∉ x :: t) := by
    intro q w hq hn
    by_cases hqx : q = x
    · exact .inl hqx
    · right
      simp only [List.mem_append, not_or] at hn
      have hnx : q ∉ x :: t := by simp [hqx, hn.1]
      cases hW : mget? W q with
      | none => exact (hn.2 (h'.new q w hq hW)).elim
      | some w0 =>
        have hle := (h.srt x t wx rfl hx).2 q w0 hW hnx
        obtain ⟨w', h1, _, _, h2⟩ := h'.ext q w0 hW
        rw [h1] at hq
        cases hq
        rw [h2 hle]; exact ⟨rfl, hnx⟩
  have hnd := h'.nd
  have hpw := h'.pw
  rw [List.cons_append] at hnd hpw
  rw [List.nodup_cons] at hnd
  rw [List.pairwise_cons] at hpw
  refine { hp := h'.hp, di := h'.di, qin := fun q hq => h'.qin q (by simp only [List.cons_append, List.mem_cons]; exact .inr hq), nd := hnd.2, fe := h'.fe, pw := hpw.2, srt := ?_, cl := ?_ }
  · intro y t' wy hQ hy
    have hle : ∀ q ∈ t ++ N, ∀ w, mget? W' q = some w → wx.steps ≤ w.steps ∧ w.steps ≤ wx.steps + 1 := by
      intro q hq w hw
      refine ⟨hpw.1 q hq wx w hxk hw, ?_⟩
      rcases List.mem_append.1 hq with hq | hq
      · obtain ⟨w0, h0⟩ := h.qin q (by simp [hq])
        have := ((h.srt x t wx rfl hx).1 q hq w0 h0).2
        obtain ⟨w', h1, h2, _⟩ := h'.ext q w0 h0
        rw [h1] at hw; cases hw; omega
      · have := h'.tl q hq w hw; omega
    have hyx := hle y (by rw [hQ]; simp) wy hy
    have hpw2 := hpw.2
    rw [hQ, List.pairwise_cons] at hpw2
    refine ⟨?_, ?_⟩
    · intro q hq w hw
      refine ⟨hpw2.1 q hq wy w hy hw, ?_⟩
      have := hle q (by rw [hQ]; simp [hq]) w hw
      omega
    · intro q w hw hn
      rcases hmem q w hw hn with rfl | ⟨h1, h2⟩
      · rw [hxk] at hw; cases hw; omega
      · have := (h.srt x t wx rfl hx).2 q w h1 h2; omega
  · intro q w hw hn i hi
    rcases hmem q w hw hn with rfl | ⟨h1, h2⟩
    · rw [hxk] at hw; cases hw
      have := hk _ _ hi
      have := h'.dn i.toNat (by omega) (by rw [Int.toNat_of_nonneg (by omega)]; exact hi)
      rwa [Int.toNat_of_nonneg (by omega)] at this
    · exact (h.cl q w h1 h2 i hi).mono (fun q w hw => by obtain ⟨w', a, b, c, _⟩ := h'.ext q w hw; exact ⟨w', a, b, c⟩)
theorem II.set {W : gp_} {x : Int} {t : List Int} (h : BO E kn p W (x :: t)) {wx : Search_way} (hx : mget? W x = some wx) {j : Nat} {W' : gp_} {N N' : List Int} {v : Int}
    (he : ez_ E) (hk : me_ E kn) (h' : II E kn p W x t wx j W' N) (hkn : kn x j = true) (hv : v = if x = p then (j : Int) else wx.edge)
    (hr : (mget? W' (nx E x j) = none ∧ N' = N ++ [nx E x j]) ∨ ∃ w, mget? W' (nx E x j) = some w ∧ w.steps = wx.steps + 1 ∧ v < w.edge ∧ N' = N) :
    II E kn p W x t wx (j + 1) (fq_ W' (nx E x j) ⟨wx.steps + 1, v⟩) N' := by
  have ⟨k1, k2, k3, k4⟩ := hk _ _ hkn
  have hq := he _ _ k1 k2 k3 k4
  have ⟨_, kx, hkx, hdx⟩ := h.di x wx hx
  have hxk : mget? W' x = some wx := by
    obtain ⟨w', h1, _, _, h2⟩ := h'.ext x wx hx
    rw [h1, h2 (by omega)]
  have hdr : Di E kn (kx + 1) p (nx E x j) := by
    rcases hr with ⟨hr, _⟩ | ⟨w, hr, hs, _⟩
    · refine ⟨hdx.1.snoc hkn, fun i hi hw => ?_⟩
      obtain ⟨w, h1⟩ := h.all hx i _ hw (by omega)
      obtain ⟨w', h2, _⟩ := h'.ext _ _ h1
      rw [hr] at h2; cases h2
    · obtain ⟨_, k, h1, h2⟩ := h'.di _ _ hr
      rw [show kx + 1 = k by omega]; exact h2
  have hrp : nx E x j ≠ p := by
    intro e
    rw [e] at hdr
    exact hdr.2 0 (by omega) (.nil _)
  have hsteps : ∀ q w, mget? (fq_ W' (nx E x j) ⟨wx.steps + 1, v⟩) q = some w → (q = nx E x j ∧ w = ⟨wx.steps + 1, v⟩) ∨ (q ≠ nx E x j ∧ mget? W' q = some w) := by
    intro q w hw
    rw [ch_] at hw
    by_cases hqr : q = nx E x j
    · rw [if_pos hqr] at hw; cases hw; exact .inl ⟨hqr, rfl⟩
    · rw [if_neg hqr] at hw; exact .inr ⟨hqr, hw⟩
  have hst2 : ∀ q w, mget? (fq_ W' (nx E x j) ⟨wx.steps + 1, v⟩) q = some w → (∃ w0, mget? W' q = some w0 ∧ w0.steps = w.steps) ∨ (mget? W' q = none ∧ q = nx E x j ∧ w.steps = wx.steps + 1) := by
    intro q w hw
    rcases hsteps q w hw with ⟨rfl, rfl⟩ | ⟨_, hw⟩
    · rcases hr with ⟨hr, _⟩ | ⟨w0, hr, hs, _⟩
      · exact .inr ⟨hr, rfl, rfl⟩
      · exact .inl ⟨w0, hr, hs⟩
    · exact .inl ⟨w, hw, rfl⟩
  have hset : ∀ q, (∃ w, mget? W' q = some w) → ∃ w, mget? (fq_ W' (nx E x j) ⟨wx.steps + 1, v⟩) q = some w := by
    rintro q ⟨w, hw⟩
    rw [ch_]
    split
    · exact ⟨_, rfl⟩
    · exact ⟨w, hw⟩
  have hnN : mget? W' (nx E x j) = none → nx E x j ∉ x :: t ++ N := by
    intro hn hm
    obtain ⟨w, hw⟩ := h'.qin _ hm
    rw [hn] at hw; cases hw
  have hpos : ∀ q ∈ x :: t ++ N, ∀ w, mget? W' q = some w → w.steps ≤ wx.steps + 1 := by
    intro q hq w hw
    rcases List.mem_append.1 hq with hq | hq
    · rcases List.mem_cons.1 hq with rfl | hq
      · rw [hxk] at hw; cases hw; omega
      · obtain ⟨w0, h0⟩ := h.qin q (by simp [hq])
        have := ((h.srt x t wx rfl hx).1 q hq w0 h0).2
        obtain ⟨w', h1, h2, _⟩ := h'.ext q w0 h0
        rw [h1] at hw; cases hw; omega
    · have := h'.tl q hq w hw; omega
  refine { hp := ?_, di := ?_, qin := ?_, nd := ?_, fe := ?_, pw := ?_, tl := ?_, ext := ?_, new := ?_, dn := ?_ }
  · obtain ⟨w, h1, h2⟩ := h'.hp
    exact ⟨w, by rw [ch_, if_neg (fun e => hrp e.symm)]; exact h1, h2⟩
  · intro q w hw
    rcases hsteps q w hw with ⟨rfl, rfl⟩ | ⟨_, hw⟩
    · exact ⟨hq, kx + 1, by simp only; omega, hdr⟩
    · exact h'.di q w hw
  · intro q hm
    rcases hr with ⟨hr, rfl⟩ | ⟨w0, hr, _, _, rfl⟩
    · rw [← List.append_assoc] at hm
      rcases List.mem_append.1 hm with hm | hm
      · exact hset q (h'.qin q hm)
      · rw [List.mem_singleton] at hm
        subst hm
        exact ⟨_, by rw [ch_, if_pos rfl]⟩
    · exact hset q (h'.qin q hm)
  · rcases hr with ⟨hr, rfl⟩ | ⟨w0, hr, _, _, rfl⟩
    · rw [← List.append_assoc]
      refine List.nodup_append.2 ⟨h'.nd, by simp, ?_⟩
      intro a ha b hb
      rw [List.mem_singleton] at hb
      subst hb
      intro e; subst e
      exact hnN hr ha
    · exact h'.nd
  · intro q w hw hqp
    rcases hsteps q w hw with ⟨rfl, rfl⟩ | ⟨_, hw⟩
    · simp only
      by_cases hxp : x = p
      · rw [if_pos hxp] at hv
        subst hv
        have : kx = 0 := by rw [hxp] at hdx; exact hdx.uniq .zero
        subst this
        rw [← hxp]
        exact ⟨hkn, 0, by omega, .nil _⟩
      · rw [if_neg hxp] at hv
        subst hv
        obtain ⟨a, k, b, c⟩ := h.fe x wx hx hxp
        exact ⟨a, k + 1, by omega, c.snoc hkn⟩
    · exact h'.fe q w hw hqp
  · have hold : (x :: t ++ N).Pairwise (fun a b => ∀ wa wb, mget? (fq_ W' (nx E x j) ⟨wx.steps + 1, v⟩) a = some wa → mget? (fq_ W' (nx E x j) ⟨wx.steps + 1, v⟩) b = some wb → wa.steps ≤ wb.steps) := by
      refine List.Pairwise.imp_of_mem ?_ h'.pw
      intro a b ha hb hab wa wb h1 h2
      rcases hst2 a wa h1 with ⟨a0, c1, c2⟩ | ⟨c1, _⟩
      · rcases hst2 b wb h2 with ⟨b0, d1, d2⟩ | ⟨d1, _⟩
        · have := hab a0 b0 c1 d1; omega
        · obtain ⟨w, hw⟩ := h'.qin b hb; rw [d1] at hw; cases hw
      · obtain ⟨w, hw⟩ := h'.qin a ha; rw [c1] at hw; cases hw
    rcases hr with ⟨hr, rfl⟩ | ⟨w0, hr, _, _, rfl⟩
    · rw [← List.append_assoc]
      refine List.pairwise_append.2 ⟨hold, by simp, ?_⟩
      intro a ha b hb wa wb h1 h2
      rw [List.mem_singleton] at hb
      subst hb
      rw [ch_, if_pos rfl] at h2
      cases h2
      rcases hst2 a wa h1 with ⟨a0, c1, c2⟩ | ⟨c1, _⟩
      · have := hpos a ha a0 c1; simp only; omega
      · obtain ⟨w, hw⟩ := h'.qin a ha; rw [c1] at hw; cases hw
    · exact hold
  · intro q hm w hw
    rcases hsteps q w hw with ⟨rfl, rfl⟩ | ⟨hne, hw⟩
    · rfl
    · refine h'.tl q ?_ w hw
      rcases hr with ⟨hr, rfl⟩ | ⟨w0, hr, _, _, rfl⟩
      · rcases List.mem_append.1 hm with hm | hm
        · exact hm
        · rw [List.mem_singleton] at hm; exact (hne hm).elim
      · exact hm
  · intro q w hw
    obtain ⟨w', h1, h2, h3, h4⟩ := h'.ext q w hw
    by_cases hqr : q = nx E x j
    · subst hqr
      rcases hr with ⟨hr, _⟩ | ⟨w0, hr, hs, hlt, _⟩
      · rw [hr] at h1; cases h1
      · rw [hr] at h1; cases h1
        refine ⟨_, by rw [ch_, if_pos rfl], by simp only; omega, by simp only; omega, fun h5 => by omega⟩
    · exact ⟨w', by rw [ch_, if_neg hqr]; exact h1, h2, h3, h4⟩
  · intro q w hw hn
    rcases hsteps q w hw with ⟨rfl, rfl⟩ | ⟨hne, hw⟩
    · rcases hr with ⟨hr, rfl⟩ | ⟨w0, hr, hs, hlt, rfl⟩
      · simp
      · exact h'.new _ _ hr hn
    · have := h'.new q w hw hn
      rcases hr with ⟨hr, rfl⟩ | ⟨w0, hr, hs, hlt, rfl⟩
      · simp [this]
      · exact this
  · intro i hi hki
    have hmono : ∀ q w, mget? W' q = some w → ∃ w', mget? (fq_ W' (nx E x j) ⟨wx.steps + 1, v⟩) q = some w' ∧ w'.steps = w.steps ∧ w'.edge ≤ w.edge := by
      intro q w hw
      by_cases hqr : q = nx E x j
      · subst hqr
        rcases hr with ⟨hr, _⟩ | ⟨w0, hr, hs, hlt, _⟩
        · rw [hr] at hw; cases hw
        · rw [hr] at hw; cases hw
          exact ⟨_, by rw [ch_, if_pos rfl], by simp only; omega, by simp only; omega⟩
      · exact ⟨w, by rw [ch_, if_neg hqr]; exact hw, rfl, Int.le_refl _⟩
    by_cases hij : i = j
    · subst hij
      exact ⟨_, by rw [ch_, if_pos rfl], fun _ => by simp only; omega⟩
    · exact (h'.dn i (by omega) hki).mono hmono
theorem II.skip {W : gp_} {x : Int} {t : List Int} {wx : Search_way} {j : Nat} {W' : gp_} {N : List Int} (h' : II E kn p W x t wx j W' N) (hd : kn x j = true → Cl E kn p W' x wx j) :
    II E kn p W x t wx (j + 1) W' N :=
  have hdn : ∀ i : Nat, i < j + 1 → kn x i = true → Cl E kn p W' x wx i := by
    intro i hi hki
    by_cases hij : i = j
    · subst hij; exact hd hki
    · exact h'.dn i (by omega) hki
  { h' with dn := hdn }
theorem II.start {W : gp_} {x : Int} {t : List Int} (h : BO E kn p W (x :: t)) (wx : Search_way) : II E kn p W x t wx 0 W [] := by
  refine { hp := h.hp, di := h.di, qin := by simpa using h.qin, nd := by simpa using h.nd, fe := h.fe, pw := by simpa using h.pw, tl := by simp, ext := fun q w hw => ⟨w, hw, rfl, Int.le_refl _, fun _ => rfl⟩, new := fun q w h1 h2 => (by rw [h1] at h2; cases h2), dn := fun i hi => by omega }
theorem BO.final {W : gp_} (h : BO E kn p W []) : (∀ (k : Nat) (q : Int), Wk E kn k p q → ∃ w, mget? W q = some w) ∧
    ∀ (k : Nat) (q : Int) (w : Search_way) (i : Int), mget? W q = some w → w.steps = ((k + 1 : Nat) : Int) → kn p i = true → Wk E kn k (nx E p i) q → w.edge ≤ i := by
  have hall : ∀ (k : Nat) (q : Int), Wk E kn k p q → ∃ w, mget? W q = some w := by
    intro k
    induction k with
    | zero => intro q hw; rw [← hw.zero]; obtain ⟨w, h1, _⟩ := h.hp; exact ⟨w, h1⟩
    | succ k ih =>
      intro q hw
      obtain ⟨r, i, h1, h2, rfl⟩ := hw.unsnoc
      obtain ⟨w, h3⟩ := ih r h1
      obtain ⟨w', h4, _⟩ := h.cl r w h3 (by simp) i h2
      exact ⟨w', h4⟩
  refine ⟨hall, ?_⟩
  intro k
  induction k with
  | zero =>
    intro q w i hq hs hi hw
    obtain ⟨wp, h1, h2⟩ := h.hp
    obtain ⟨w', h3, h4⟩ := h.cl p wp h1 (by simp) i hi
    rw [hw.zero, hq] at h3
    cases h3
    have := h4 (by omega)
    rwa [if_pos rfl] at this
  | succ k ih =>
    intro q w i hq hs hi hw
    obtain ⟨r, i', h1, h2, rfl⟩ := hw.unsnoc
    obtain ⟨_, k', hk', hd⟩ := h.di _ _ hq
    have : k' = k + 2 := by omega
    subst this
    have hdr : Di E kn (k + 1) p r := ⟨.cons hi h1, fun j hj hw' => hd.2 (j + 1) (by omega) (hw'.snoc h2)⟩
    obtain ⟨wr, h3⟩ := hall _ _ hdr.1
    obtain ⟨_, k2, hk2, hd2⟩ := h.di _ _ h3
    have hk3 := hd2.uniq hdr
    have h5 := ih r wr i h3 (by omega) hi h1
    obtain ⟨w', h6, h7⟩ := h.cl r wr h3 (by simp) i' h2
    rw [hq] at h6; cases h6
    have h8 := h7 (by omega)
    rw [if_neg (by intro e; rw [e] at hdr; exact hdr.2 0 (by omega) (.nil _))] at h8
    omega
end
end Go.Proofs.Ytogfongmnkmegaa.Pad
