/- Frames as functions, and the code rules of the walk over them. -/
import Derived.Calls
import Derived.Tactics
import Derived.TacticsIn
import Derived.OrdersIn
import Derived.CallsIn
set_option linter.unusedVariables false
namespace Go.Proofs.Ytogfongmnkmegaa.Pad
open Go
variable {ro : Option Nat}
def FW (ro : Option Nat) : Fence := { fn := fun _ => True, depth := none, alive := false, round := ro }
theorem kf_ {P : Program} {f : FuncId} {args : Array Value} {w : World} {R : Ending → World → Prop} {k : Nat} : CallsIn (FW ro) k P f args w R ↔ Calls P f args w R :=
  (show CallsIn (FW ro) k P f args w R ↔ CallsIn Fence.wide k P f args w R from Iff.rfl).trans callsIn_wide
structure Fr where
  g : Nat → Value
  ds : List Deferred
instance : CoeFun Fr (fun _ => Nat → Value) := ⟨Fr.g⟩
def upv (f : Nat → Value) (d : Nat) (v : Value) : Nat → Value := fun i => cond (Nat.beq i d) v (f i)
theorem mj_ (f : Nat → Value) (d : Nat) (v : Value) : upv f d v d = v := by simp [upv]
theorem lb_ (f : Nat → Value) (d : Nat) (v : Value) {i : Nat} (h : i ≠ d) : upv f d v i = f i := by
  have : Nat.beq i d = false := by cases hb : Nat.beq i d with
    | false => rfl
    | true => exact absurd (Nat.eq_of_beq_eq_true hb) h
  simp [upv, this]
def upd (f : Fr) (d : Nat) (v : Value) : Fr := ⟨fun i => cond (Nat.beq i d) v (f i), f.ds⟩
def updO (f : Fr) (d : Option Nat) (v : Value) : Fr := match d with | some d => upd f d v | none => f
theorem jp_ (f : Fr) (d : Nat) (v : Value) : upd f d v d = v := by simp [upd]
theorem lc_ (f : Fr) (d : Nat) (v : Value) {i : Nat} (h : i ≠ d) : upd f d v i = f i := lb_ f d v h
structure Fits (n : Nat) (a : Act) (f : Fr) : Prop where
  size : a.tmps.size = n
  defers : a.defers = f.ds
  at_ : ∀ i, a.tmps.getD i undef = f i
def ev (f : Fr) : Operand → Value
  | .tmp t => f t
  | .const v => v
  | .global g => .pointer (some ⟨g, 0, none⟩)
  | .func k => .func (.func k) #[] #[]
theorem Fits.eval {n : Nat} {a : Act} {f : Fr} (h : Fits n a f) : a.eval = ev f := by
  funext x
  cases x with
  | tmp t => exact h.at_ t
  | const v => rfl
  | global g => rfl
  | func k => rfl
theorem Fits.put {n : Nat} {a : Act} {f : Fr} (h : Fits n a f) {d : Nat} (hd : Nat.blt d n = true) (v : Value) : Fits n (a.put (some d) v) (upd f d v) := by
  have hlt : d < n := by have := Nat.le_of_ble_eq_true hd; omega
  refine ⟨by simp [Act.put, h.size], h.defers, fun i => ?_⟩
  by_cases e : i = d
  · subst e
    rw [jp_]
    have : i < a.tmps.size := by rw [h.size]; exact hlt
    simp [Act.put, Array.getD_eq_getD_getElem?, this]
  · rw [lc_ _ _ _ e, ← h.at_ i]
    simp [Act.put, Array.getD_eq_getD_getElem?, Ne.symm e]
def ma_ (n : Nat) : Option Nat → Bool
  | some d => Nat.blt d n
  | none => true
theorem Fits.putO {n : Nat} {a : Act} {f : Fr} (h : Fits n a f) {d : Option Nat} (hd : ma_ n d = true) (v : Value) : Fits n (a.put d v) (updO f d v) := by
  cases d with
  | none => exact h
  | some d => exact h.put hd v
theorem Fits.enter {n : Nat} {args : Array Value} (hn : args.size ≤ n) :
    Fits n { tmps := args ++ Array.replicate (n - args.size) undef, defers := [] } ⟨fun i => args.getD i undef, []⟩ := by
  refine ⟨by simp; omega, rfl, fun i => ?_⟩
  simp only [Array.getD_eq_getD_getElem?, Array.getElem?_append, Array.getElem?_replicate]
  split
  · rfl
  · rename_i h
    have : args[i]? = none := by simp; omega
    rw [this]
    split <;> rfl
section code
variable {P : Program} {n : Nat}
def Ends (n : Nat) (N R : Fr → World → Prop) (X : Nat → Fr → World → Prop) (e : Exit) (a : Act) (w : World) : Prop :=
  ∃ f, Fits n a f ∧ match e with
    | .normal => N f w
    | .ret => R f w
    | .exit i => X i f w
    | _ => False
def WP (P : Program) (n : Nat) (ro : Option Nat) (c : Code) (N R : Fr → World → Prop) (X : Nat → Fr → World → Prop) (f : Fr) (w : World) : Prop :=
  ∀ a, Fits n a f → c.wpIn (FW ro) 0 P (Ends n N R X) a w
variable {N R : Fr → World → Prop} {X : Nat → Fr → World → Prop} {f : Fr} {w : World}
theorem WP.mono {c : Code} {N' R' : Fr → World → Prop} {X' : Nat → Fr → World → Prop} (h : WP P n ro c N R X f w)
    (hN : ∀ f w, N f w → N' f w) (hR : ∀ f w, R f w → R' f w) (hX : ∀ i f w, X i f w → X' i f w) : WP P n ro c N' R' X' f w := by
  intro a ha
  refine Go.wpIn_mono (h a ha) fun e a w hq => ?_
  obtain ⟨f, hf, hq⟩ := hq
  refine ⟨f, hf, ?_⟩
  cases e <;> first | exact hN _ _ hq | exact hR _ _ hq | exact hX _ _ _ hq | exact hq
theorem ad_ {x y : Code} (h : WP P n ro x (fun f w => WP P n ro y N R X f w) R X f w) : WP P n ro (.seq x y) N R X f w := by
  intro a ha
  refine Go.wpIn_seq (Go.wpIn_mono (h a ha) fun e a w hq => ?_)
  obtain ⟨f, hf, hq⟩ := hq
  cases e with
  | normal => exact hq a hf
  | ret => exact ⟨f, hf, hq⟩
  | exit i => exact ⟨f, hf, hq⟩
  | goto l => exact hq.elim
  | panic c => exact hq.elim
  | outgrown => exact hq.elim
theorem eo_ {x y : Code} (M : Fr → World → Prop) (h : WP P n ro x M R X f w) (k : ∀ f w, M f w → WP P n ro y N R X f w) : WP P n ro (.seq x y) N R X f w :=
  ad_ (h.mono (fun f w hm => k f w hm) (fun _ _ h => h) (fun _ _ _ h => h))
theorem ar_ (h : N f w) : WP P n ro .skip N R X f w := fun _ ha => Go.wpIn_skip ⟨f, ha, h⟩
theorem aw_ (h : R f w) : WP P n ro .ret N R X f w := fun _ ha => Go.wpIn_ret ⟨f, ha, h⟩
theorem bm_ {i : Nat} (h : X i f w) : WP P n ro (.exit i) N R X f w := fun _ ha => Go.wpIn_exit ⟨f, ha, h⟩
theorem au_ {i : Nat} {c : Code} (h : WP P n ro c N R (fun j => cond (Nat.beq j i) N (X j)) f w) : WP P n ro (.block i c) N R X f w := by
  intro a ha
  refine Go.wpIn_block (Go.wpIn_mono (h a ha) fun e a w hq => ?_)
  obtain ⟨f, hf, hq⟩ := hq
  cases e with
  | normal => exact ⟨f, hf, hq⟩
  | ret => exact ⟨f, hf, hq⟩
  | exit j =>
    by_cases e : j = i
    · subst e
      simp only [Exit.inBlock, if_true]
      have : Nat.beq j j = true := Nat.beq_refl j
      simp only [this, cond_true] at hq
      exact ⟨f, hf, hq⟩
    · simp only [Exit.inBlock, e, if_false]
      have : Nat.beq j i = false := by cases hb : Nat.beq j i with
        | false => rfl
        | true => exact absurd (Nat.eq_of_beq_eq_true hb) e
      simp only [this, cond_false] at hq
      exact ⟨f, hf, hq⟩
  | goto l => exact hq.elim
  | panic c => exact hq.elim
  | outgrown => exact hq.elim
theorem an_ {c : Operand} {x y : Code} {b : Bool} (hc : ev f c = .bool b) (hb : b = true) (h : WP P n ro x N R X f w) : WP P n ro (.cond c x y) N R X f w := by
  intro a ha
  subst hb
  exact Go.wpIn_cond_true (by rw [ha.eval]; exact hc) (h a ha)
theorem ap_ {c : Operand} {x y : Code} {b : Bool} (hc : ev f c = .bool b) (hb : b = false) (h : WP P n ro y N R X f w) : WP P n ro (.cond c x y) N R X f w := by
  intro a ha
  subst hb
  exact Go.wpIn_cond_false (by rw [ha.eval]; exact hc) (h a ha)
theorem ib_ {σ : Type} {c : Code} (I : σ → Fr → World → Prop) (μ : σ → Nat) (s : σ) (h0 : I s f w)
    (round : ∀ s f w, I s f w → WP P n ro c (fun f' w' => ∃ s', μ s' < μ s ∧ I s' f' w') R X f w) : WP P n ro (.loop c) N R X f w := by
  intro a ha b k cs hro hb hr
  have key : ∀ m, ∀ s f w a, μ s = m → I s f w → Fits n a f →
      ∃ e a' w', Ends n N R X e a' w' ∧ ArrivesIn (Machine.fenced P (FW ro)) P (lone (b.atR a (.code c :: .inLoop c :: k)) cs w) b k cs e a' w' := by
    intro m
    induction m using Nat.strongRecOn with
    | _ m ih =>
      intro s f w a hm hI ha
      obtain ⟨e, a₁, w₁, hq, harr⟩ := round s f w hI a ha b (.inLoop c :: k) cs hro hb hr
      obtain ⟨f₁, hf₁, hq⟩ := hq
      cases e with
      | normal =>
        obtain ⟨s', hlt, hI'⟩ := hq
        obtain ⟨e₂, a₂, w₂, hq₂, harr₂⟩ := ih (μ s') (hm ▸ hlt) s' f₁ w₁ a₁ rfl hI' hf₁
        exact ⟨e₂, a₂, w₂, hq₂, .of_steps (StepsIn.trans harr (.one (fenced_calm hb hr rfl) stepR_inLoop)) harr₂⟩
      | exit id => exact ⟨_, a₁, w₁, ⟨f₁, hf₁, hq⟩, .pass (x := .inLoop c) rfl (fun _ _ => .inl (by simp)) harr⟩
      | goto l => exact hq.elim
      | ret => exact ⟨_, a₁, w₁, ⟨f₁, hf₁, hq⟩, .pass (x := .inLoop c) rfl (fun _ _ => .inl (by simp)) harr⟩
      | panic ch => exact hq.elim
      | outgrown => exact hq.elim
  obtain ⟨e, a', w', hq, harr⟩ := key _ s f w a rfl h0 ha
  exact ⟨e, a', w', hq, .of_steps (.one (fenced_calm hb hr rfl) stepR_loop) harr⟩
end code
def forN {σ ρ : Type} (body : Nat → σ → Option (σ ⊕ ρ)) : Nat → Nat → σ → Option (σ ⊕ ρ)
  | 0, _, s => some (.inl s)
  | k + 1, i, s =>
    match body i s with
    | none => none
    | some (.inl s') => forN body k (i + 1) s'
    | some (.inr r) => some (.inr r)
def ea_ {σ ρ : Type} (body : σ → Option (σ ⊕ ρ)) : Nat → σ → Option ρ
  | 0, _ => none
  | k + 1, s =>
    match body s with
    | none => none
    | some (.inl s') => ea_ body k s'
    | some (.inr r) => some r
theorem fz_ {σ ρ : Type} {body : σ → Option (σ ⊕ ρ)} {r : ρ} : ∀ {k m : Nat} {s : σ}, ea_ body k s = some r → k ≤ m → ea_ body m s = some r
  | 0, _, _, h, _ => by simp [ea_] at h
  | k + 1, 0, _, _, hm => by omega
  | k + 1, m + 1, s, h, hm => by
    unfold ea_ at h ⊢
    cases hb : body s with
    | none => rw [hb] at h; cases h
    | some o => cases o with
      | inl s' => rw [hb] at h; exact fz_ (k := k) (m := m) h (by omega)
      | inr r' => rw [hb] at h; exact h
theorem ip_ {σ ρ : Type} {body : σ → Option (σ ⊕ ρ)} {r r' : ρ} {k m : Nat} {s : σ} (h : ea_ body k s = some r) (h' : ea_ body m s = some r') : r = r' := by
  have a := fz_ h (Nat.le_max_left k m)
  have b := fz_ h' (Nat.le_max_right k m)
  rw [a] at b
  exact Option.some.inj b
noncomputable def bw_ {σ ρ : Type} (body : σ → Option (σ ⊕ ρ)) (s : σ) : Option ρ :=
  @dite _ (∃ k r, ea_ body k s = some r) (Classical.propDecidable _) (fun h => some (Classical.choose (Classical.choose_spec h))) (fun _ => none)
theorem ed_ {σ ρ : Type} {body : σ → Option (σ ⊕ ρ)} {s : σ} {r : ρ} : bw_ body s = some r ↔ ∃ k, ea_ body k s = some r := by
  unfold bw_
  constructor
  · intro h
    split at h
    · rename_i hex
      have hs := Classical.choose_spec (Classical.choose_spec hex)
      rw [Option.some.inj h] at hs
      exact ⟨_, hs⟩
    · cases h
  · rintro ⟨k, hk⟩
    have hex : ∃ k r, ea_ body k s = some r := ⟨k, r, hk⟩
    rw [dif_pos hex]
    exact congrArg some (ip_ (Classical.choose_spec (Classical.choose_spec hex)) hk)
theorem id_ {σ ρ : Type} (body : σ → Option (σ ⊕ ρ)) (s : σ) :
    bw_ body s = match body s with | none => none | some (.inl s') => bw_ body s' | some (.inr r) => some r := by
  apply Option.ext
  intro r
  rw [ed_]
  constructor
  · rintro ⟨k, hk⟩
    cases k with
    | zero => simp [ea_] at hk
    | succ k =>
      unfold ea_ at hk
      cases hb : body s with
      | none => rw [hb] at hk; cases hk
      | some o => cases o with
        | inl s' => rw [hb] at hk; exact ed_.2 ⟨k, hk⟩
        | inr r' => rw [hb] at hk; exact hk
  · intro h
    cases hb : body s with
    | none => rw [hb] at h; cases h
    | some o => cases o with
      | inl s' =>
        rw [hb] at h
        obtain ⟨k, hk⟩ := ed_.1 h
        exact ⟨k + 1, by unfold ea_; rw [hb]; exact hk⟩
      | inr r' => rw [hb] at h; exact ⟨1, by unfold ea_; rw [hb]; exact h⟩
section loops
variable {P : Program} {n : Nat} {N R : Fr → World → Prop} {X : Nat → Fr → World → Prop} {f : Fr} {w : World}
theorem dl_ {σ ρ : Type} {c : Code} {body : Nat → σ → Option (σ ⊕ ρ)} {k : Nat} {s0 : σ} {out : σ ⊕ ρ} (I : Nat → σ → Fr → World → Prop)
    (hrun : forN body k 0 s0 = some out) (h0 : I 0 s0 f w)
    (round : ∀ i s f w o, i < k → I i s f w → body i s = some o → (∀ r, o = .inr r → out = .inr r) →
      WP P n ro c (fun f' w' => ∃ s', o = .inl s' ∧ I (i + 1) s' f' w') R X f w)
    (last : ∀ s f w, out = .inl s → I k s f w → WP P n ro c (fun _ _ => False) R X f w) : WP P n ro (.loop c) N R X f w := by
  refine ib_ (σ := Nat × Nat × σ) (fun g f w => g.1 + g.2.1 = k + 1 ∧ 1 ≤ g.1 ∧ I g.2.1 g.2.2 f w ∧ forN body (g.1 - 1) g.2.1 g.2.2 = some out) (fun g => g.1) (k + 1, 0, s0) ⟨by simp, by simp, h0, hrun⟩ ?_
  rintro ⟨m, i, s⟩ f w ⟨hm, hm1, hI, hr⟩
  simp only at hm hm1 hI hr
  cases m with
  | zero => omega
  | succ m =>
    cases m with
    | zero =>
      simp only [Nat.zero_add, Nat.sub_self, forN] at hr
      have : i = k := by omega
      subst this
      exact (last s f w (Option.some.inj hr).symm hI).mono (fun _ _ h => h.elim) (fun _ _ h => h) (fun _ _ _ h => h)
    | succ m =>
      simp only [Nat.add_sub_cancel, forN] at hr
      cases hb : body i s with
      | none => rw [hb] at hr; cases hr
      | some o =>
        rw [hb] at hr
        refine (round i s f w o (by omega) hI hb ?_).mono ?_ (fun _ _ h => h) (fun _ _ _ h => h)
        · rintro r rfl
          exact (Option.some.inj hr).symm
        · rintro f' w' ⟨s', rfl, hI'⟩
          exact ⟨(m + 1, i + 1, s'), by simp, by simp; omega, by simp, hI', by simpa using hr⟩
theorem co_ {σ ρ : Type} {c : Code} {body : σ → Option (σ ⊕ ρ)} {s0 : σ} {out : ρ} (I : σ → Fr → World → Prop)
    (hrun : bw_ body s0 = some out) (h0 : I s0 f w)
    (round : ∀ s f w o, I s f w → body s = some o → (∀ r, o = .inr r → out = r) →
      WP P n ro c (fun f' w' => ∃ s', o = .inl s' ∧ I s' f' w') R X f w) : WP P n ro (.loop c) N R X f w := by
  obtain ⟨k, hk⟩ := ed_.1 hrun
  refine ib_ (σ := Nat × σ) (fun g f w => I g.2 f w ∧ ea_ body g.1 g.2 = some out) (fun g => g.1) (k, s0) ⟨h0, hk⟩ ?_
  rintro ⟨m, s⟩ f w ⟨hI, hr⟩
  simp only at hI hr
  cases m with
  | zero => simp [ea_] at hr
  | succ m =>
    unfold ea_ at hr
    cases hb : body s with
    | none => rw [hb] at hr; cases hr
    | some o =>
      rw [hb] at hr
      refine (round s f w o hI hb ?_).mono ?_ (fun _ _ h => h) (fun _ _ _ h => h)
      · rintro r rfl
        exact (Option.some.inj hr).symm
      · rintro f' w' ⟨s', rfl, hI'⟩
        exact ⟨(m, s'), by simp, hI', hr⟩
end loops
end Go.Proofs.Ytogfongmnkmegaa.Pad
