/- Data in memory, and one operation at a time. -/
import Derived.Test.YtogfongmnkmegaaPadA
import Derived.Test.YtogfongmnkmegaaPadB
import Derived.Laws.Wrap64
set_option linter.unusedVariables false
set_option linter.unusedSimpArgs false
namespace Go.Proofs.Ytogfongmnkmegaa.Pad
open Go
variable {ro : Option Nat}
def PH.cell (S : PH) (a : Addr) : Option Value :=
  match S.m a.block with
  | some (.cells c _ _) => if a.spot.isSome then none else c[a.off]?
  | _ => none
theorem PH.cell_in {S : PH} {w : World} (h : S.m.In w) {a : Addr} {u : Value} (hc : S.cell a = some u) : w.cell? a = some u := by
  unfold PH.cell at hc
  cases hm : S.m a.block with
  | none => rw [hm] at hc; cases hc
  | some o =>
    rw [hm] at hc
    have := h _ _ hm
    unfold World.cell?
    rw [this]
    cases o <;> first | exact hc | cases hc
theorem PH.cell_le {S T : PH} (h : S.Le T) {a : Addr} {u : Value} (hc : S.cell a = some u) : T.cell a = some u := by
  unfold PH.cell at hc ⊢
  cases hm : S.m a.block with
  | none => rw [hm] at hc; cases hc
  | some o => rw [hm] at hc; rw [h.m _ _ hm]; exact hc
class Enc (α : Type) where
  agg : Bool
  sz : Nat
  rep : PH → List Value → α → Prop
  len : ∀ {S cs x}, rep S cs x → cs.length = sz
  one : agg = false → sz = 1
  cell1 : ∀ {S cs x}, rep S cs x → ∀ v ∈ cs, v.oneCell' = true
  mono : ∀ {S T cs x}, S.Le T → rep S cs x → rep T cs x
def mkV : Bool → List Value → Value
  | true, cs => .agg cs.toArray
  | false, cs => cs.headD undef
def RV {α : Type} [Enc α] (S : PH) (v : Value) (x : α) : Prop := ∃ cs, Enc.rep S cs x ∧ v = mkV (Enc.agg α) cs
theorem RV.mono {α : Type} [Enc α] {S T : PH} {v : Value} {x : α} (h : RV S v x) (hle : S.Le T) : RV T v x := by
  obtain ⟨cs, hr, hv⟩ := h
  exact ⟨cs, Enc.mono hle hr, hv⟩
theorem RV.cells {α : Type} [Enc α] {S : PH} {v : Value} {x : α} (h : RV S v x) : Enc.rep S v.cells.toList x := by
  obtain ⟨cs, hr, rfl⟩ := h
  cases ha : Enc.agg α with
  | true => simpa [mkV, Value.cells] using hr
  | false =>
    have h1 := Enc.len hr
    rw [Enc.one ha] at h1
    match cs, h1 with
    | [c], _ =>
      have := Enc.cell1 hr c (by simp)
      have e : (mkV false [c]).cells = #[c] := by
        simp only [mkV, List.headD]
        cases c <;> first | rfl | (simp [Value.oneCell'] at this)
      rw [e]
      simpa using hr
instance : Enc Int where
  agg := false
  sz := 1
  rep _ cs n := cs = [.int .i64 n]
  len h := by rw [h]; rfl
  one _ := rfl
  cell1 h := by intro v hv; rw [h] at hv; simp at hv; subst hv; rfl
  mono _ h := h
instance : Enc Bool where
  agg := false
  sz := 1
  rep _ cs b := cs = [.bool b]
  len h := by rw [h]; rfl
  one _ := rfl
  cell1 h := by intro v hv; rw [h] at hv; simp at hv; subst hv; rfl
  mono _ h := h
theorem gc_ {S : PH} {v : Value} {n : Int} (h : RV S v n) : v = .int .i64 n := by
  obtain ⟨cs, hr, rfl⟩ := h
  have hr : cs = [.int .i64 n] := hr
  subst hr
  rfl
theorem rv_bool {S : PH} {v : Value} {n : Bool} (h : RV S v n) : v = .bool n := by
  obtain ⟨cs, hr, rfl⟩ := h
  have hr : cs = [.bool n] := hr
  subst hr
  rfl
theorem cb_ {S : PH} (n : Int) : RV S (.int .i64 n) n := ⟨[.int .i64 n], rfl, rfl⟩
theorem jr_ {S : PH} (n : Bool) : RV S (.bool n) n := ⟨[.bool n], rfl, rfl⟩
def RowAt {α : Type} [Enc α] (cell : Addr → Option Value) (S : PH) (ad : Addr) (l : List α) : Prop :=
  ∀ i x, l[i]? = some x → ∃ es, Enc.rep S es x ∧ ∀ j u, es[j]? = some u → cell (ad.add (i * Enc.sz α + j)) = some u
instance instEncList {α : Type} [Enc α] : Enc (List α) where
  agg := false
  sz := 1
  rep S cs l := ∃ a cap, cs = [.slice a l.length cap] ∧ l.length ≤ cap ∧ cap ≤ maxLen ∧ (a = none → l = [] ∧ cap = 0) ∧ ∀ ad, a = some ad → RowAt S.cell S ad l
  len h := by obtain ⟨a, cap, e, _⟩ := h; rw [e]; rfl
  one _ := rfl
  cell1 h := by obtain ⟨a, cap, e, _⟩ := h; intro v hv; rw [e] at hv; simp at hv; subst hv; rfl
  mono hle h := by
    obtain ⟨a, cap, e, hl, hm, hn, hr⟩ := h
    refine ⟨a, cap, e, hl, hm, hn, fun ad ha i x hx => ?_⟩
    obtain ⟨es, h1, h2⟩ := hr ad ha i x hx
    exact ⟨es, Enc.mono hle h1, fun j u hu => PH.cell_le hle (h2 j u hu)⟩
theorem ep_ {α : Type} [Enc α] {S : PH} {v : Value} {l : List α} (h : RV S v l) :
    ∃ a cap, v = .slice a l.length cap ∧ l.length ≤ cap ∧ cap ≤ maxLen ∧ (a = none → l = [] ∧ cap = 0) ∧ ∀ ad, a = some ad → RowAt S.cell S ad l := by
  obtain ⟨cs, ⟨a, cap, rfl, h⟩, rfl⟩ := h
  exact ⟨a, cap, rfl, h⟩
theorem gn_ {α : Type} [Enc α] {S : PH} {l : List α} {a : Option Addr} {cap : Nat} (h : l.length ≤ cap ∧ cap ≤ maxLen ∧ (a = none → l = [] ∧ cap = 0) ∧ ∀ ad, a = some ad → RowAt S.cell S ad l) :
    RV S (.slice a l.length cap) l := ⟨_, ⟨a, cap, rfl, h⟩, rfl⟩
theorem rv_nil {α : Type} [Enc α] {S : PH} : RV S (.slice none 0 0) ([] : List α) :=
  gn_ (l := ([] : List α)) ⟨Nat.le_refl _, by simp [maxLen], fun _ => ⟨rfl, rfl⟩, fun _ h => by cases h⟩
instance instEncProd {α β : Type} [Enc α] [Enc β] : Enc (α × β) where
  agg := true
  sz := Enc.sz α + Enc.sz β
  rep S cs x := ∃ a b, cs = a ++ b ∧ Enc.rep S a x.1 ∧ Enc.rep S b x.2
  len h := by obtain ⟨a, b, rfl, h1, h2⟩ := h; rw [List.length_append, Enc.len h1, Enc.len h2]
  one h := by cases h
  cell1 h := by
    obtain ⟨a, b, rfl, h1, h2⟩ := h
    intro v hv
    rcases List.mem_append.1 hv with h | h
    · exact Enc.cell1 h1 v h
    · exact Enc.cell1 h2 v h
  mono hle h := by
    obtain ⟨a, b, e, h1, h2⟩ := h
    exact ⟨a, b, e, Enc.mono hle h1, Enc.mono hle h2⟩
@[reducible] def fu_ {σ τ : Type} [Enc τ] (f : σ → τ) : Enc σ where
  agg := true
  sz := Enc.sz τ
  rep S cs x := Enc.rep S cs (f x)
  len h := Enc.len h
  one h := by cases h
  cell1 h := Enc.cell1 h
  mono hle h := Enc.mono hle h
theorem dg_ (a : Addr) (i j : Nat) : (a.add i).add j = a.add (i + j) := by
  unfold Addr.add
  by_cases hi : i = 0 <;> by_cases hj : j = 0 <;> simp [hi, hj, Nat.add_assoc]
def PtT {α : Type} [Enc α] (w : World) (S : PH) (p : Value) (x : α) : Prop :=
  ∃ a cs, p = .pointer (some a) ∧ Enc.rep S cs x ∧ ∀ j u, cs[j]? = some u → w.cell? (a.add j) = some u
def am_ (p : Value) (off : Nat) : Value := match p with
  | .pointer (some a) => .pointer (some (a.add off))
  | v => v
def ah_ (v : Value) (i : Int) (sz : Nat) : Value := match v with
  | .slice (some a) _ _ => .pointer (some (a.add (i.toNat * sz)))
  | v => v
def Fld (σ : Type) [Enc σ] {β : Type} [Enc β] (off : Nat) (get : σ → β) : Prop :=
  ∀ (S : PH) (cs : List Value) (x : σ), Enc.rep S cs x → ∃ a b c, cs = a ++ (b ++ c) ∧ a.length = off ∧ Enc.rep S b (get x)
theorem PtT.fld {σ β : Type} [Enc σ] [Enc β] {w : World} {S : PH} {p : Value} {x : σ} (h : PtT w S p x) {off : Nat} {get : σ → β} (hf : Fld σ off get) : PtT w S (am_ p off) (get x) := by
  obtain ⟨a, cs, rfl, hr, hc⟩ := h
  obtain ⟨A, B, C, rfl, ho, hb⟩ := hf S cs x hr
  refine ⟨a.add off, B, rfl, hb, fun j u hu => ?_⟩
  rw [dg_]
  refine hc (off + j) u ?_
  rw [List.getElem?_append_right (by omega), ho, Nat.add_sub_cancel_left]
  have hj : j < B.length := (List.getElem?_eq_some_iff.1 hu).1
  rw [List.getElem?_append_left hj]
  exact hu
def at? {α : Type} (l : List α) (i : Int) : Option α := if 0 ≤ i then l[i.toNat]? else none
theorem bv_ {α : Type} {l : List α} {i : Int} {x : α} (h : at? l i = some x) : 0 ≤ i ∧ i.toNat < l.length ∧ l[i.toNat]? = some x := by
  unfold at? at h
  split at h
  · exact ⟨‹_›, (List.getElem?_eq_some_iff.1 h).1, h⟩
  · cases h
theorem at?_nat {α : Type} (l : List α) (i : Nat) : at? l (i : Int) = l[i]? := by
  unfold at?
  rw [if_pos (by omega), Int.toNat_natCast]
theorem RV.elem {α : Type} [Enc α] {S : PH} {v : Value} {l : List α} (h : RV S v l) {w : World} (hin : S.m.In w) {i : Int} {x : α} (hx : at? l i = some x) : PtT w S (ah_ v i (Enc.sz α)) x := by
  obtain ⟨a, cap, rfl, hl, hm, hn, hr⟩ := ep_ h
  obtain ⟨h0, hlt, hx⟩ := bv_ hx
  cases a with
  | none => rw [(hn rfl).1] at hlt; simp at hlt
  | some ad =>
    obtain ⟨es, h1, h2⟩ := hr ad rfl _ _ hx
    refine ⟨_, es, rfl, h1, fun j u hu => ?_⟩
    rw [dg_]
    exact PH.cell_in hin (h2 j u hu)
def OP (P : Program) (n : Nat) (ro : Option Nat) (o : Oper) (f : Fr) (w : World) (K : Fr → World → Prop) : Prop :=
  ∀ a, Fits n a f → ∀ Q, o.wpIn (FW ro) 0 P a w (fun a' w' => ∃ f', Fits n a' f' ∧ K f' w') Q
theorem gm_ {P : Program} {o : Oper} {e : Operand → Value} {w w' : World} {x : Next} (h : (execOp e o).run P w = .ok x w') (hx : ∀ d, x ≠ .defer d) : (o.semAt ro e).run P w = .ok x w' := by
  rw [Oper.semAt_eq]
  · exact h
  · intro c hc
    obtain ⟨d, op, ty, pos, af, gd⟩ := o
    simp only at hc
    subst hc
    simp only [execOp, Sem.run_bind] at h
    cases hq : (resolve e c ty).run P w with
    | halt y w'' => rw [hq] at h; cases h
    | ok y w'' =>
      rw [hq] at h
      simp only [Result.andThen_ok, Sem.run_pure] at h
      injection h with h1 h2
      exact hx _ h1.symm
section
variable {P : Program} {n : Nat} {o : Oper} {f : Fr} {w w' : World} {K : Fr → World → Prop} {v : Value}
theorem OP.mono {K' : Fr → World → Prop} (h : OP P n ro o f w K) (hk : ∀ f w, K f w → K' f w) : OP P n ro o f w K' := fun a ha Q =>
  Oper.wpIn_mono (fun a w ⟨f', hf, hk'⟩ => ⟨f', hf, hk _ _ hk'⟩) (h a ha Q)
theorem cd_ {d : Nat} {op : Op} {ty : TypeId} {pos : String} {af : Array Edge} {gd : Option (Nat × Bool)} (hd : Nat.blt d n = true)
    (h : (execOp (ev f) ⟨some d, op, ty, pos, af, gd⟩).run P w = .ok (.value v) w') (k : K (upd f d v) w') : OP P n ro ⟨some d, op, ty, pos, af, gd⟩ f w K := by
  intro a ha Q
  refine ⟨fun _ _ => trivial, ?_⟩
  rw [ha.eval, gm_ h (fun _ e => by cases e)]
  exact ⟨_, ha.put hd v, k⟩
theorem ho_ {op : Op} {ty : TypeId} {pos : String} {af : Array Edge} {gd : Option (Nat × Bool)}
    (h : (execOp (ev f) ⟨none, op, ty, pos, af, gd⟩).run P w = .ok .skip w') (k : K f w') : OP P n ro ⟨none, op, ty, pos, af, gd⟩ f w K := by
  intro a ha Q
  refine ⟨fun _ _ => trivial, ?_⟩
  rw [ha.eval, gm_ h (fun _ e => by cases e)]
  exact ⟨f, ha, k⟩
end
def WL (P : Program) (n : Nat) (ro : Option Nat) (ops : Array Oper) (N : Fr → World → Prop) (rest : List Oper) (f : Fr) (w : World) : Prop :=
  ∀ (R : Fr → World → Prop) (X : Nat → Fr → World → Prop) a, Fits n a f → wpListIn (FW ro) 0 P ops (Ends n N R X) rest a w
section
variable {P : Program} {n : Nat} {ops : Array Oper} {N R : Fr → World → Prop} {X : Nat → Fr → World → Prop} {rest : List Oper} {f : Fr} {w : World}
theorem ab_ {i : Nat} {l : List Oper} (h : WL P n ro l.toArray N l f w) : WP P n ro (.region i l.toArray false) N R X f w :=
  fun a ha => wpIn_region_lit (h R X a ha)
theorem ag_ (h : N f w) : WL P n ro ops N [] f w := fun _ _ _ ha => wpListIn_nil ⟨f, ha, h⟩
theorem aa_ {o : Oper} (hg : o.guard = none) (h : OP P n ro o f w (WL P n ro ops N rest)) : WL P n ro ops N (o :: rest) f w := by
  intro R X a ha
  unfold wpListIn
  rw [if_pos (by simp [Region.wanted, hg])]
  exact Oper.wpIn_mono (fun a' w' ⟨f', hf, hk⟩ => hk R X a' hf) (h a ha _)
theorem fm_ {a : Act} (ha : Fits n a f) {o : Oper} {j d : Nat} {b c : Bool} (hg : o.guard = some (j, b)) (hj : (ops[j]?).bind (·.dst) = some d) (hd : Nat.blt d n = true) (hv : f d = .bool c) :
    Region.wanted o (yielded ops a.tmps) = (c == b) := by
  have hlt : d < a.tmps.size := by rw [ha.size]; have := Nat.le_of_ble_eq_true hd; omega
  have : a.tmps[d]? = some (.bool c) := by
    have := ha.at_ d
    rw [hv, Array.getD_eq_getD_getElem?, Array.getElem?_eq_getElem hlt] at this
    rw [Array.getElem?_eq_getElem hlt]
    simpa using this
  simp [Region.wanted, hg, yielded, hj, this]
theorem al_ {o : Oper} {j d : Nat} {b c : Bool} (hg : o.guard = some (j, b)) (hj : (ops[j]?).bind (·.dst) = some d) (hd : Nat.blt d n = true) (hv : f d = .bool c) (hc : c = b)
    (h : OP P n ro o f w (WL P n ro ops N rest)) : WL P n ro ops N (o :: rest) f w := by
  intro R X a ha
  unfold wpListIn
  rw [if_pos (by rw [fm_ ha hg hj hd hv]; simp [hc])]
  exact Oper.wpIn_mono (fun a' w' ⟨f', hf, hk⟩ => hk R X a' hf) (h a ha _)
theorem ai_ {o : Oper} {j d : Nat} {b c : Bool} (hg : o.guard = some (j, b)) (hj : (ops[j]?).bind (·.dst) = some d) (hd : Nat.blt d n = true) (hv : f d = .bool c) (hc : c = !b) (ho : ma_ n o.dst = true)
    (h : WL P n ro ops N rest (updO f o.dst undef) w) : WL P n ro ops N (o :: rest) f w := by
  intro R X a ha
  unfold wpListIn
  rw [if_neg (by rw [fm_ ha hg hj hd hv, hc]; cases b <;> simp)]
  exact ⟨fun _ _ => trivial, h R X _ (ha.putO ho undef)⟩
end
end Go.Proofs.Ytogfongmnkmegaa.Pad
