/- From what a row reads to the data that stands for it, and back. -/
import Derived.Test.YtogfongmnkmegaaPadL
import Derived.WalkKit
import Derived.ProofKit
import Derived.OpenShut
import Derived.WideKeyArgs
import Derived.Deep.Slices
set_option linter.unusedVariables false
namespace Go.Proofs.Ytogfongmnkmegaa.Pad
open Go Go.ChangeShapes Go.WideShapes Go.ChangeAt Go.RowKit Go.Deep
def PH.all (W : World) : PH := ⟨fun b => W.heap[b]?, W.os, W.output⟩
theorem inv_all (W : World) : Inv W (PH.all W) [] := ⟨rfl, rfl, fun _ _ h => h⟩
section
variable {H : Type} {enc : TypeId × Value → H} {P : Program} {W : World} {base : Nat} {sp : Nat → Bool} {hd : Bool}
def Rd (enc : TypeId × Value → H) (P : Program) (W : World) (base : Nat) (sp : Nat → Bool) (hd : Bool) (α : Type) [Enc α] (t : TypeId) : Prop :=
  ∀ (n : Nat) (cs : List Value) (x : DataW H × List MemPlace), DataW.trod enc P W base sp hd n t cs = some x → ∃ a : α, Enc.rep (PH.all W) cs a
theorem ig_ {t : TypeId} (ht : P.underlying t = some (.int .i64)) : Rd enc P W base sp hd Int t := by
  intro n cs x h
  obtain ⟨a, rfl, _, _⟩ := DataW.trod_int ht h
  exact ⟨a, rfl⟩
theorem rd_bool {t : TypeId} (ht : P.underlying t = some .bool) : Rd enc P W base sp hd Bool t := by
  intro n cs x h
  obtain ⟨a, rfl, _⟩ := DataW.trod_bool ht h
  exact ⟨a, rfl⟩
theorem nn_ {α : Type} {Q : Nat → α → Prop} : ∀ {n : Nat}, (∀ i, i < n → ∃ x, Q i x) → ∃ l : List α, l.length = n ∧ ∀ i x, l[i]? = some x → Q i x
  | 0, _ => ⟨[], rfl, fun i x h => by simp at h⟩
  | n + 1, h => by
    obtain ⟨l, h1, h2⟩ := nn_ (n := n) (fun i hi => h i (by omega))
    obtain ⟨y, hy⟩ := h n (by omega)
    refine ⟨l ++ [y], by simp [h1], fun i x hx => ?_⟩
    rcases Nat.lt_or_ge i n with hi | hi
    · rw [List.getElem?_append_left (by omega)] at hx
      exact h2 i x hx
    · rw [List.getElem?_append_right (by omega)] at hx
      have : i = n := by
        rcases Nat.lt_or_ge (i - l.length) 1 with h' | h'
        · omega
        · rw [List.getElem?_eq_none (by simpa using h')] at hx; cases hx
      subst this
      rw [h1, Nat.sub_self] at hx
      simp only [List.getElem?_cons_zero, Option.some.injEq] at hx
      subst hx; exact hy
theorem gt_ {α : Type} [Enc α] {t e : TypeId} (ht : P.underlying t = some (.slice e)) (hc : P.cellsOf e = Enc.sz α) (h : Rd enc P W base sp hd α e) : Rd enc P W base sp hd (List α) t := by
  intro n cs x hx
  rcases open_slice ht hx with ⟨rfl, _⟩ | ⟨a, len, cap, m, k, D, Pl, rfl, _, hl, hm, hmm, _, hel⟩
  · exact ⟨[], none, 0, rfl, Nat.le_refl _, by decide, fun _ => ⟨rfl, rfl⟩, fun ad had => by cases had⟩
  · have hle : len ≤ m := by rw [hmm]; split <;> omega
    obtain ⟨l, h1, h2⟩ := nn_ (n := len) (Q := fun i (y : α) => ∃ es, Enc.rep (PH.all W) es y ∧ ∀ j u, es[j]? = some u → W.cell? (a.add (i * Enc.sz α + j)) = some u) (fun i hi => by
      obtain ⟨cs', c1, c2⟩ := hel i (by omega)
      obtain ⟨y, hy⟩ := h k cs' _ c2
      obtain ⟨_, c3, c4⟩ := World.cells?_some c1
      refine ⟨y, cs', hy, fun j u hj => ?_⟩
      have hj' : j < P.cellsOf e := by rw [← c3]; exact (List.getElem?_eq_some_iff.1 hj).1
      have := c4 j hj'
      rw [dg_, hj, hc] at this
      exact this)
    exact ⟨l, some a, cap, by rw [h1], by omega, hm, fun h => (by cases h), fun ad had i y hy => (by cases had; exact h2 i y hy)⟩
def RdF (enc : TypeId × Value → H) (P : Program) (W : World) (base : Nat) (sp : Nat → Bool) (hd : Bool) (α : Type) [Enc α] (off : Nat) (fs : List Field) : Prop :=
  ∀ (n : Nat) (cs : List Value), cs.length = off + Enc.sz α → (∀ f ∈ fs, ∃ y, DataW.trod enc P W base sp hd n f.type ((cs.drop f.offset).take (P.cellsOf f.type)) = some y) → ∃ a : α, Enc.rep (PH.all W) (cs.drop off) a
theorem gu_ {α : Type} [Enc α] {off : Nat} {f : Field} (ho : f.offset = off) (hc : P.cellsOf f.type = Enc.sz α) (h : Rd enc P W base sp hd α f.type) : RdF enc P W base sp hd α off [f] := by
  intro n cs hl hf
  obtain ⟨y, hy⟩ := hf f (by simp)
  obtain ⟨a, ha⟩ := h _ _ _ hy
  rw [ho, List.take_of_length_le (by rw [List.length_drop, hc]; omega)] at ha
  exact ⟨a, ha⟩
theorem ek_ {α β : Type} [Enc α] [Enc β] {off : Nat} {f : Field} {fs : List Field} (ho : f.offset = off) (hc : P.cellsOf f.type = Enc.sz α) (h : Rd enc P W base sp hd α f.type)
    (hr : RdF enc P W base sp hd β (off + Enc.sz α) fs) : RdF enc P W base sp hd (α × β) off (f :: fs) := by
  intro n cs hl hf
  obtain ⟨y, hy⟩ := hf f (by simp)
  obtain ⟨a, ha⟩ := h _ _ _ hy
  have hl' : cs.length = off + (Enc.sz α + Enc.sz β) := hl
  obtain ⟨b, hb⟩ := hr n cs (by omega) (fun g hg => hf g (by simp [hg]))
  rw [ho, hc] at ha
  refine ⟨(a, b), _, _, ?_, ha, hb⟩
  rw [← List.drop_drop, List.take_append_drop]
theorem er_ {σ τ : Type} [Enc τ] (f : σ → τ) (g : τ → σ) (hfg : ∀ x, f (g x) = x) {t : TypeId} {fs : Array Field} (ht : P.underlying t = some (.struct fs)) (hc : P.cellsOf t = Enc.sz τ)
    (h : RdF enc P W base sp hd τ 0 fs.toList) : @Rd H enc P W base sp hd σ (fu_ f) t := by
  intro n cs x hx
  obtain ⟨xs, k, _, _, hl, hlen, hf⟩ := DataW.trod_struct ht hx
  obtain ⟨a, ha⟩ := h k cs (by omega) (fun fl hfl => by
    obtain ⟨i, hi, e⟩ := List.getElem_of_mem hfl
    have hi' : i < fs.size := by simpa using hi
    have := hf i fl (by rw [Array.getElem?_eq_getElem hi', ← e]; simp)
    rw [List.getElem?_eq_getElem (by omega)] at this
    exact ⟨_, this⟩)
  refine ⟨g a, ?_⟩
  show Enc.rep (PH.all W) cs (f (g a))
  rw [hfg]
  simpa using ha
theorem le_ {α : Type} [Enc α] {r : Reach} {b0 : Nat} {t : TypeId} {fs : Array Field} {v : Value} {d : DataW H} {ps : List MemPlace} (ha : Enc.agg α = true) (ht : P.underlying t = some (.struct fs))
    (hval : Value.okWide P W r b0 t v) (hr : DataW.Trod enc P W base sp hd t v d ps) (h : Rd enc P W base sp hd α t) : ∃ a : α, RV (PH.all W) v a := by
  obtain ⟨cs, rfl, _⟩ := okWide_struct ht hval
  obtain ⟨n, hn⟩ := hr
  obtain ⟨a, h1⟩ := h _ _ _ hn
  refine ⟨a, _, h1, ?_⟩
  rw [ha]; simp [mkV, Value.cells]
theorem mm_ {α : Type} [Enc α] {r : Reach} {b0 : Nat} {t e : TypeId} {v : Value} {d : DataW H} {ps : List MemPlace} (ht : P.underlying t = some (.slice e))
    (hval : Value.okWide P W r b0 t v) (hr : DataW.Trod enc P W base sp hd t v d ps) (h : Rd enc P W base sp hd (List α) t) : ∃ a : List α, RV (PH.all W) v a := by
  obtain ⟨a, len, cap, rfl⟩ := okWide_slice ht hval
  obtain ⟨n, hn⟩ := hr
  obtain ⟨x, h1⟩ := h _ _ _ hn
  exact ⟨x, _, h1, rfl⟩
end
structure Old (W W' : World) : Prop where
  os : W'.os = W.os
  out : W'.output = W.output
  heap : ∀ (b : Nat) o, W.heap[b]? = some o → W'.heap[b]? = some o
theorem Old.of_inv {W W' : World} {T : PH} {O : List HP} (h : Inv W' T O) (hle : (PH.all W).Le T) : Old W W' :=
  ⟨h.os.trans hle.os, h.out.trans hle.out, fun b o hb => h.in_ b o (hle.m b o hb)⟩
theorem Old.at_ {W W' : World} (h : Old W W') {b : Nat} (hb : b < W.heap.size) : W'.heap[b]? = W.heap[b]? := by
  rw [Array.getElem?_eq_getElem hb]
  exact h.heap b _ (Array.getElem?_eq_getElem hb)
theorem Old.same {W W' : World} (h : Old W W') {p : MemPlace} (hp : p.block < W.heap.size) : W.sameAt W' p := by
  cases p with
  | cell b off =>
    show W'.cell? ⟨b, off, none⟩ = W.cell? ⟨b, off, none⟩
    unfold World.cell?
    rw [h.at_ (by exact hp)]
  | map b => exact h.at_ hp
theorem Old.kept {W W' : World} (h : Old W W') (may : MemPlace → Prop) : W.keptBut W' may := by
  refine ⟨h.os, h.out, fun i hi => ?_⟩
  rw [h.at_ hi, Array.getElem?_eq_getElem hi]
  cases W.heap[i] with
  | cells c t fr => exact ⟨rfl, rfl, rfl, fun _ _ => rfl⟩
  | map es cl => exact .inr ⟨rfl, rfl⟩
  | _ => rfl
section
variable {H : Type} {enc : TypeId × Value → H} {P : Program}
theorem Old.trodAll {W W' : World} (h : Old W W') (hl : laidOutB P = true) {sp' : Nat → Bool} : ∀ {ts : List TypeId} {vs : List Value} {ds : List (DataW H)} {ps : List MemPlace},
    (∀ t ∈ ts, P.readableRec t = true ∧ t < P.types.size) → DataW.TrodAll enc P W 0 (fun _ => true) true ts vs ds ps → (∀ p ∈ ps, p.block < W.heap.size) → (∀ p ∈ ps, sp' p.block = true) → DataW.TrodAll enc P W' 0 sp' true ts vs ds ps
  | [], _, _, _, _, hA, _, _ => by
    obtain ⟨rfl, rfl, rfl⟩ := trodAll_nil hA
    exact rfl
  | t :: ts, _, _, _, ht, hA, hp, hs => by
    obtain ⟨v, vs, d, ds, p, q, rfl, rfl, rfl, h0, h1⟩ := trodAll_cons hA
    exact ⟨p, q, WideElems.Trod_stays hl (ht t (by simp)).1 (ht t (by simp)).2 h0 (fun x hx => h.same (hp x (by simp [hx]))) (fun x hx => hs x (by simp [hx])),
      Old.trodAll h hl (fun t ht' => ht t (by simp [ht'])) h1 (fun x hx => hp x (by simp [hx])) (fun x hx => hs x (by simp [hx])), rfl⟩
theorem mp_ {f : Func} {s : ChangeSpec} {W W' : World} {args : Array Value} {ds gs : List (DataW H)} {before : List MemPlace} {tb : TypeId}
    (hl : laidOutB P = true) (hts : ∀ t ∈ f.params.toList, P.readableRec t = true ∧ t < P.types.size) (hv : s.vars = []) (hr : f.resultTypes = #[tb]) (hb : P.underlying tb = some .bool)
    (hW : DataW.Whole enc P f.params.toList s.vars false W args.toList ds gs before) (hold : Old W W')
    (e1 : (s.fn H (ds ++ gs)).results = [.lit (.bool true)]) (e2 : (s.fn H (ds ++ gs)).args = ds) (e3 : (s.fn H (ds ++ gs)).vars = []) :
    s.post enc P f false true false false W args (.bool true) W' := by
  have hlt := hW.lt
  obtain ⟨p, q, hA, hV, rfl, hz, hn⟩ := id hW
  rw [hv] at hV
  obtain ⟨rfl, rfl⟩ := trodVars_none hV
  simp only [List.append_nil] at hlt hW
  have hold' : ∀ x ∈ p, (fun b => decide (b < W.heap.size)) x.block = true := fun x hx => by simpa using hlt x hx
  refine ⟨ds, [], p, [], p, [], hW, ?_, ?_, ?_, World.keptBut_mono (fun x hx => ⟨hx, .inr (.inl hx)⟩) (hold.kept _), fun h => by cases h⟩
  · simp only [List.append_nil] at e1
    rw [hr]
    simp only [List.append_nil, e1]
    exact trodAll_cons_mk (shut_bool hb _) trodAll_mk0
  · rw [List.append_nil] at e2 ⊢
    rw [e2]
    exact hold.trodAll hl hts hA hlt hold'
  · rw [List.append_nil] at e3 ⊢
    rw [e3, hv]
    exact rfl
end
end Go.Proofs.Ytogfongmnkmegaa.Pad
