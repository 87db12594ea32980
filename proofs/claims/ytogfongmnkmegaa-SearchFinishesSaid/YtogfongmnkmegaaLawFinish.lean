/- A player who remembers all edges. -/
import Derived.Test.YtogfongmnkmegaaLawReach
set_option linter.unusedVariables false
namespace Go.Proofs.Ytogfongmnkmegaa.Pad
open Go Go.Proofs
theorem mr_ {α : Type} [DecidableEq α] : ∀ (l L : List α), l.Nodup → (∀ x ∈ l, x ∈ L) → l.length ≤ L.length := by
  intro l
  induction l with
  | nil => intro L _ _; simp
  | cons a l ih =>
    intro L h hs
    rw [List.nodup_cons] at h
    have ha := hs a (by simp)
    have h1 := ih (L.erase a) h.2 (fun x hx => (List.mem_erase_of_ne (fun e : x = a => h.1 (e ▸ hx))).2 (hs x (by simp [hx])))
    have h2 := List.length_erase_of_mem ha
    have h3 := List.length_pos_of_mem ha
    simp only [List.length_cons]; omega
def fv_ : Nat → List (List Edge) → List Search_gone
  | _, [] => []
  | k, r :: E => (List.range r.length).map (fun i : Nat => (⟨(k : Int), (i : Int)⟩ : Search_gone)) ++ fv_ (k + 1) E
theorem ix_ : ∀ (E : List (List Edge)) (k : Nat), (fv_ k E).length = cm_ E := by
  intro E
  induction E with
  | nil => intro k; rfl
  | cons r E ih => intro k; simp [fv_, ih, cm_]
theorem io_ : ∀ (E : List (List Edge)) (k p : Nat) (i : Nat), (h : p < E.length) → i < E[p].length → (⟨((k + p : Nat) : Int), (i : Int)⟩ : Search_gone) ∈ fv_ k E := by
  intro E
  induction E with
  | nil => intro k p i h; simp at h
  | cons r E ih =>
    intro k p i h hi
    unfold fv_
    cases p with
    | zero =>
      refine List.mem_append.2 (.inl ?_)
      simp only [List.getElem_cons_zero] at hi
      exact List.mem_map.2 ⟨i, List.mem_range.2 hi, rfl⟩
    | succ p =>
      refine List.mem_append.2 (.inr ?_)
      have := ih (k + 1) p i (by simpa using h) (by simpa using hi)
      rw [show k + 1 + p = k + (p + 1) by omega] at this
      exact this
theorem MemOk.le {E : List (List Edge)} {M : List Search_gone} (h : MemOk E M) : M.length ≤ cm_ E := by
  rw [← ix_ E 0]
  refine mr_ _ _ h.nd (fun x hx => ?_)
  have ⟨a, b, c, e⟩ := h.rng x hx
  have hrow : ba_ E x.position = E[x.position.toNat]'(by omega) := by
    have := eg_ ([] : List Edge) (l := E) (i := x.position.toNat) (by omega)
    rw [show ((x.position.toNat : Nat) : Int) = x.position by omega] at this
    exact this
  have := io_ E 0 x.position.toNat x.edge.toNat (by omega) (by rw [hrow] at e; omega)
  rw [Nat.zero_add, show ((x.position.toNat : Nat) : Int) = x.position by omega, show ((x.edge.toNat : Nat) : Int) = x.edge by omega] at this
  exact this
theorem MemOk.lt {E : List (List Edge)} {M : List Search_gone} (h : MemOk E M) {p : Int} (hp : 0 ≤ p ∧ p < E.length) (hf : Fr_ E (knS M) p) : M.length + 1 ≤ cm_ E := by
  obtain ⟨i, i0, i1, i2⟩ := hf
  have hn : (⟨p, i⟩ : Search_gone) ∉ M := of_decide_eq_false i2
  have h2 : MemOk E (⟨p, i⟩ :: M) := ⟨List.nodup_cons.2 ⟨hn, h.nd⟩, fun x hx => by
    rcases List.mem_cons.1 hx with rfl | hx
    · exact ⟨hp.1, hp.2, i0, i1⟩
    · exact h.rng x hx⟩
  have := h2.le
  simpa using this
theorem gw_ {E : List (List Edge)} {M : List Search_gone} {mem p e : Int} (h : MemOk E M) (hp : 0 ≤ p ∧ p < E.length) (he : 0 ≤ e ∧ e < (ba_ E p).length) (hm : (cm_ E : Int) ≤ mem) :
    du_ mem M p e = M.filter (fun x => !decide (x = ⟨p, e⟩)) ++ [⟨p, e⟩] ∧ (∀ q i, knS (du_ mem M p e) q i = true ↔ knS M q i = true ∨ (q = p ∧ i = e)) ∧
    (knS M p e = true → (du_ mem M p e).length = M.length) ∧ (knS M p e = false → (du_ mem M p e).length = M.length + 1) := by
  have h1 : MemOk E (M.filter (fun x => !decide (x = ⟨p, e⟩)) ++ [⟨p, e⟩]) := by
    refine ⟨List.nodup_append.2 ⟨h.nd.filter _, by simp, ?_⟩, ?_⟩
    · intro a ha b hb
      rw [List.mem_singleton] at hb
      subst hb
      simp at ha
      exact ha.2
    · intro x hx
      rcases List.mem_append.1 hx with hx | hx
      · exact h.rng x (List.mem_filter.1 hx).1
      · rw [List.mem_singleton] at hx
        subst hx
        exact ⟨hp.1, hp.2, he.1, he.2⟩
  have hle := h1.le
  have heq : du_ mem M p e = M.filter (fun x => !decide (x = ⟨p, e⟩)) ++ [⟨p, e⟩] := by
    unfold du_
    simp only
    rw [if_neg (by omega)]
  have hmem : ∀ q i, knS (du_ mem M p e) q i = true ↔ knS M q i = true ∨ (q = p ∧ i = e) := by
    intro q i
    rw [heq]
    unfold knS
    simp only [decide_eq_true_eq, List.mem_append, List.mem_filter, List.mem_singleton, Bool.not_eq_true', decide_eq_false_iff_not, Search_gone.mk.injEq]
    constructor
    · rintro (⟨a, _⟩ | a)
      · exact .inl a
      · exact .inr a
    · rintro (a | a)
      · by_cases hc : q = p ∧ i = e
        · exact .inr hc
        · exact .inl ⟨a, hc⟩
      · exact .inr a
  have hlen : (M.filter (fun x => !decide (x = ⟨p, e⟩))).length + (if knS M p e then 1 else 0) = M.length := by
    have hnd := h.nd
    unfold knS
    clear h1 hle heq hmem h
    induction M with
    | nil => simp
    | cons a M ih =>
      rw [List.nodup_cons] at hnd
      have := ih hnd.2
      by_cases ha : a = ⟨p, e⟩
      · subst ha
        rw [if_neg (by simpa using hnd.1)] at this
        rw [List.filter_cons, if_neg (by simp), if_pos (by simp)]
        simp only [List.length_cons]; omega
      · rw [List.filter_cons, if_pos (by simpa using ha)]
        have hiff : ((⟨p, e⟩ : Search_gone) ∈ a :: M) ↔ (⟨p, e⟩ : Search_gone) ∈ M := by
          simp only [List.mem_cons]
          exact ⟨fun h => h.resolve_left (fun h => ha h.symm), .inr⟩
        have hdec : decide ((⟨p, e⟩ : Search_gone) ∈ a :: M) = decide ((⟨p, e⟩ : Search_gone) ∈ M) := decide_eq_decide.2 hiff
        rw [hdec]
        simp only [List.length_cons]; omega
  refine ⟨heq, hmem, fun hk => ?_, fun hk => ?_⟩
  · rw [heq, List.length_append]
    rw [hk, if_pos rfl] at hlen
    rw [List.length_singleton]; omega
  · rw [heq, List.length_append]
    rw [hk, if_neg (by simp)] at hlen
    rw [List.length_singleton]; omega
end Go.Proofs.Ytogfongmnkmegaa.Pad
