/- Small bridges. -/
import Derived.Test.YtogfongmnkmegaaPadG
set_option linter.unusedVariables false
namespace Go.Proofs.Ytogfongmnkmegaa.Pad
open Go
variable {ro : Option Nat}
theorem cp_ {α : Type} [Enc α] {S : PH} {cs : List Value} {x : α} (h0 : Enc.agg α = false) (h : Enc.rep S cs x) : ∃ v, cs = [v] ∧ RV S v x := by
  have h1 := Enc.len h
  rw [Enc.one h0] at h1
  match cs, h1 with
  | [c], _ => exact ⟨c, rfl, [c], h, by rw [h0]; rfl⟩
theorem dj_ {α : Type} [Enc α] {S : PH} {v : Value} {x : α} (h0 : Enc.agg α = false) (h : RV S v x) : Enc.rep S [v] x := by
  obtain ⟨cs, hr, rfl⟩ := h
  have h1 := Enc.len hr
  rw [Enc.one h0] at h1
  match cs, h1 with
  | [c], _ => rw [h0]; exact hr
def forS {σ : Type} (body : Nat → σ → Option σ) : Nat → Nat → σ → Option σ
  | 0, _, s => some s
  | k + 1, i, s => match body i s with
    | none => none
    | some s' => forS body k (i + 1) s'
def onL {σ ρ : Type} (o : σ ⊕ ρ) (k : σ → Option ρ) : Option ρ := match o with
  | .inl s => k s
  | .inr r => some r
def cnt? (n : Int) : Option Nat := if n ≤ 4611686018427387904 then some n.toNat else none
theorem hc_ {n : Int} {k : Nat} (h : cnt? n = some k) : n ≤ 4611686018427387904 ∧ k = n.toNat := by
  unfold cnt? at h
  split at h
  · exact ⟨‹_›, (Option.some.inj h).symm⟩
  · cases h
theorem cnt_t {n : Int} {k i : Nat} (h : cnt? n = some k) (hi : i < k) : decide ((i : Int) < n) = true := by
  obtain ⟨_, rfl⟩ := hc_ h
  exact decide_eq_true (by omega)
theorem cnt_f {n : Int} {k : Nat} (h : cnt? n = some k) : decide ((k : Int) < n) = false := by
  obtain ⟨_, rfl⟩ := hc_ h
  exact decide_eq_false (by omega)
theorem cnt_le {n : Int} {k : Nat} (h : cnt? n = some k) : k ≤ 9223372036854775807 := by
  obtain ⟨_, rfl⟩ := hc_ h
  omega
theorem eu_ {i k : Nat} (hi : i < k) : decide ((i : Int) < (k : Int)) = true := decide_eq_true (by omega)
theorem ev_ (k : Nat) : decide ((k : Int) < (k : Int)) = false := decide_eq_false (by omega)
theorem ee_ {α : Type} [Enc α] {S : PH} {v : Value} {l : List α} (h : RV S v l) : l.length ≤ 9223372036854775807 := by
  obtain ⟨a, cap, _, h1, h2, _⟩ := ep_ h
  simp only [maxLen] at h2
  omega
theorem hn_ {α : Type} [Enc α] {w : World} {S : PH} {T : TypeId} {v : Value} {l : List α} {O : List HP} (h : Inv w S (Row T v l :: O)) : l.length ≤ 9223372036854775807 := by
  obtain ⟨a, cap, _, h1, h2⟩ := h.rowForm
  simp only [maxLen] at h2
  omega
theorem ca_ {i k : Nat} (h : i < k) (hk : k ≤ 9223372036854775807) : Value.int .i64 (w64 ((i : Int) + 1)) = Value.int .i64 (((i + 1 : Nat)) : Int) := by
  rw [ci_ (by omega) (by omega)]
  rfl
section loops
variable {P : Program} {n : Nat} {N R : Fr → World → Prop} {X : Nat → Fr → World → Prop} {f : Fr} {w : World}
theorem iq_ {σ : Type} (body : Nat → σ → Option σ) : ∀ (k i : Nat) (s : σ), forN (ρ := Unit) (fun i s => (body i s).map .inl) k i s = (forS body k i s).map .inl
  | 0, _, _ => rfl
  | k + 1, i, s => by
    unfold forN forS
    cases h : body i s with
    | none => rfl
    | some s' => simp only [Option.map_some]; exact iq_ body k (i + 1) s'
theorem fh_ {σ : Type} {c : Code} {body : Nat → σ → Option σ} {k : Nat} {s0 out : σ} (I : Nat → σ → Fr → World → Prop)
    (hrun : forS body k 0 s0 = some out) (h0 : I 0 s0 f w)
    (round : ∀ i s f w o, i < k → I i s f w → body i s = some o → WP P n ro c (fun f' w' => I (i + 1) o f' w') R X f w)
    (last : ∀ f w, I k out f w → WP P n ro c (fun _ _ => False) R X f w) : WP P n ro (.loop c) N R X f w := by
  refine dl_ (ρ := Unit) (body := fun i s => (body i s).map .inl) (out := .inl out) I (by rw [iq_, hrun]; rfl) h0 ?_ ?_
  · intro i s f w o hi hI hb _
    cases hq : body i s with
    | none => rw [hq] at hb; cases hb
    | some s' =>
      rw [hq] at hb
      obtain rfl := Option.some.inj hb
      exact (round i s f w s' hi hI hq).mono (fun _ _ h => ⟨s', rfl, h⟩) (fun _ _ h => h) (fun _ _ _ h => h)
  · intro s f w hs hI
    obtain rfl := Sum.inl.inj hs
    exact last f w hI
end loops
theorem Inv.nth {w : World} {S : PH} : ∀ {O : List HP} {A : HP} (i : Nat), Inv w S O → O[i]? = some A → Inv w S [A]
  | [], _, _, _, h => by simp at h
  | B :: O, A, 0, hI, h => by
    simp at h
    subst h
    obtain ⟨k, hA, hd, hr⟩ := hI.own
    exact ⟨hI.os, hI.out, k, hA, hd, Own.in_ hr⟩
  | B :: O, A, i + 1, hI, h => Inv.nth i hI.drop (by simpa using h)
theorem ak_ {α : Type} [Enc α] {S : PH} {v : Value} {l : List α} (h : RV S v l) : ∃ a n k, v = .slice a n k := by
  obtain ⟨a, k, e, _⟩ := ep_ h
  exact ⟨a, _, k, e⟩
theorem bt_ {α : Type} [Enc α] {w : World} {S : PH} {T : TypeId} {v : Value} {l : List α} {O : List HP} (h : Inv w S (Row T v l :: O)) : ∃ a n k, v = .slice a n k := by
  obtain ⟨a, k, e, _⟩ := h.rowForm
  exact ⟨a, _, k, e⟩
theorem arr0 {f : Fr} : ((#[] : Array Operand).map (ev f)) = #[] := by simp
theorem arr1 {f : Fr} {x : Operand} {v : Value} (h : ev f x = v) : (#[x].map (ev f)) = #[v] := by simp [h]
theorem kt_ {f : Fr} : ((#[] : Array Operand).map (ev f)) ++ #[] = [].toArray := by simp
theorem ks_ {f : Fr} {x : Operand} {v : Value} (h : ev f x = v) : (#[x].map (ev f)) ++ #[] = [v].toArray := by simp [h]
theorem fb_ {f : Fr} {x y : Operand} {v u : Value} (h : ev f x = v) (h2 : ev f y = u) : (#[x, y].map (ev f)) ++ #[] = [v, u].toArray := by simp [h, h2]
theorem gl_ {f : Fr} {x y z : Operand} {v u t : Value} (h : ev f x = v) (h2 : ev f y = u) (h3 : ev f z = t) : (#[x, y, z].map (ev f)) ++ #[] = [v, u, t].toArray := by simp [h, h2, h3]
theorem md_ {f : Fr} {x y z a : Operand} {v u t s : Value} (h : ev f x = v) (h2 : ev f y = u) (h3 : ev f z = t) (h4 : ev f a = s) : (#[x, y, z, a].map (ev f)) ++ #[] = [v, u, t, s].toArray := by simp [h, h2, h3, h4]
theorem gd_ {f : Fr} {x : Operand} {v : Value} (h : ev f x = v) : ([(0, x)].map fun p => (p.1, ev f p.2)) = [v].zipIdx.map fun p => (p.2, p.1) := by simp [h]
theorem lk_ {f : Fr} {x y : Operand} {v u : Value} (h : ev f x = v) (h2 : ev f y = u) : ([(0, x), (1, y)].map fun p => (p.1, ev f p.2)) = [v, u].zipIdx.map fun p => (p.2, p.1) := by simp [h, h2]
theorem nh_ {f : Fr} {x0 x1 x2 x3 x4 : Operand} {v0 v1 v2 v3 v4 : Value} (h0 : ev f x0 = v0) (h1 : ev f x1 = v1) (h2 : ev f x2 = v2) (h3 : ev f x3 = v3) (h4 : ev f x4 = v4) : ([(0, x0), (1, x1), (2, x2), (3, x3), (4, x4)].map fun p => (p.1, ev f p.2)) = [v0, v1, v2, v3, v4].zipIdx.map fun p => (p.2, p.1) := by simp [h0, h1, h2, h3, h4]
theorem parts7 {f : Fr} {x0 x1 x2 x3 x4 x5 x6 : Operand} {v0 v1 v2 v3 v4 v5 v6 : Value} (h0 : ev f x0 = v0) (h1 : ev f x1 = v1) (h2 : ev f x2 = v2) (h3 : ev f x3 = v3) (h4 : ev f x4 = v4) (h5 : ev f x5 = v5) (h6 : ev f x6 = v6) : ([(0, x0), (1, x1), (2, x2), (3, x3), (4, x4), (5, x5), (6, x6)].map fun p => (p.1, ev f p.2)) = [v0, v1, v2, v3, v4, v5, v6].zipIdx.map fun p => (p.2, p.1) := by simp [h0, h1, h2, h3, h4, h5, h6]
class Ind (α : Type) [Enc α] : Prop where
  ind : ∀ (S T : PH) (cs : List Value) (x : α), Enc.rep S cs x → Enc.rep T cs x
instance : Ind Int := ⟨fun _ _ _ _ h => h⟩
instance : Ind Bool := ⟨fun _ _ _ _ h => h⟩
instance {α β : Type} [Enc α] [Enc β] [Ind α] [Ind β] : Ind (α × β) := ⟨fun S T cs x h => by
  obtain ⟨a, b, e, h1, h2⟩ := h
  exact ⟨a, b, e, Ind.ind S T a _ h1, Ind.ind S T b _ h2⟩⟩
theorem RepL.ind {α : Type} [Enc α] [Ind α] {S T : PH} : ∀ {l : List α} {cs : List Value}, RepL S cs l → RepL T cs l
  | [], _, h => h
  | _ :: _, _, ⟨es, rest, e, h1, h2⟩ => ⟨es, rest, e, Ind.ind S T es _ h1, RepL.ind h2⟩
theorem Row.free {α : Type} [Enc α] [Ind α] {T : TypeId} {v : Value} {l : List α} : (Row T v l).Free := by
  intro S U h hp
  rcases hp with hp | ⟨g, cap, pre, ls, post, h1, h2, h3, h4⟩
  · exact .inl hp
  · exact .inr ⟨g, cap, pre, ls, post, h1, h2, h3.ind, h4⟩
def noDst (sps : List Sp) (i d : Nat) : Bool := (List.range sps.length).all fun j => match sps[j]? with
  | some t => !(t.dst == some d) || t.anc.contains i || Nat.beq i j
  | none => true
theorem be_ {sps : List Sp} {i d : Nat} (h : noDst sps i d = true) : ∀ (j : Nat) (t : Sp), sps[j]? = some t → t.dst = some d → i ∈ t.anc ∨ i = j := by
  intro j t ht hd
  have := List.all_eq_true.1 h j (by simpa using da_ ht)
  rw [ht] at this
  simp only [Bool.or_eq_true, hd] at this
  rcases this with (h | h) | h
  · simp at h
  · exact .inl (by simpa using h)
  · exact .inr (Nat.eq_of_beq_eq_true h)
def ms_ (sps : List Sp) (d : Nat) : Bool := sps.all fun t => !(t.dst == some d)
theorem bc_ {sps : List Sp} {d : Nat} (h : ms_ sps d = true) : ∀ (j : Nat) (t : Sp), sps[j]? = some t → t.dst ≠ some d := by
  intro j t ht hd
  have := List.all_eq_true.1 h t (List.mem_of_getElem? ht)
  rw [hd] at this
  simp at this
theorem mi_ {ops : Array Oper} {n : Nat} {f : Fr} {a : Act} (ha : Fits n a f) {o : Oper} {j d : Nat} {b : Bool} (hg : o.guard = some (j, b)) (hj : (ops[j]?).bind (·.dst) = some d) (hd : Nat.blt d n = true) (hv : f d = undef) :
    Region.wanted o (yielded ops a.tmps) = false := by
  have hlt : d < a.tmps.size := by rw [ha.size]; have := Nat.le_of_ble_eq_true hd; omega
  have : a.tmps[d]? = some undef := by
    have := ha.at_ d
    rw [hv, Array.getD_eq_getD_getElem?, Array.getElem?_eq_getElem hlt] at this
    rw [Array.getElem?_eq_getElem hlt]
    simpa using this
  simp [Region.wanted, hg, yielded, hj, this, undef]
theorem cc_ {P : Program} {n : Nat} {ops : Array Oper} {N : Fr → World → Prop} {rest : List Oper} {f : Fr} {w : World} {o : Oper} {j d : Nat} {b : Bool} (hg : o.guard = some (j, b)) (hj : (ops[j]?).bind (·.dst) = some d) (hd : Nat.blt d n = true) (hv : f d = undef) (ho : ma_ n o.dst = true)
    (h : WL P n ro ops N rest (updO f o.dst undef) w) : WL P n ro ops N (o :: rest) f w := by
  intro R X a ha
  unfold wpListIn
  rw [if_neg (by rw [mi_ ha hg hj hd hv]; simp)]
  exact ⟨fun _ _ => trivial, h R X _ (ha.putO ho undef)⟩
theorem cf_ {P : Program} {n : Nat} {N R : Fr → World → Prop} {X : Nat → Fr → World → Prop} {f : Fr} {w : World} {x : Code} (M : Fr → World → Prop) (h : WP P n ro x M R X f w) (k : ∀ f w, M f w → N f w) : WP P n ro x N R X f w :=
  h.mono k (fun _ _ h => h) (fun _ _ _ h => h)
end Go.Proofs.Ytogfongmnkmegaa.Pad
