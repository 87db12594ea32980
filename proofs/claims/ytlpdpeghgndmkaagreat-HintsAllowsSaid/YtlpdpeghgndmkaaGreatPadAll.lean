/- What the walks and the laws stand on. -/
import Derived.Calls
import Derived.Tactics
import Derived.TacticsIn
import Derived.OrdersIn
import Derived.CallsIn
import Derived.Laws.OwnMore
import Derived.Laws.Rows
import Derived.Laws.MakeOwn
import Derived.Laws.Wrap64
import Derived.Laws.Bits
import Derived.Laws.StructEq
import Derived.Laws.Slices
import Derived.MapKept
set_option linter.unusedSimpArgs false
set_option linter.unusedVariables false
section
namespace Go.Proofs.YtlpdpeghgndmkaaGreat.Pad
open Go
variable {ro : Option Nat}
def FW (ro : Option Nat) : Fence := { fn := fun _ => True, depth := none, alive := false, round := ro }
theorem FW_room (k : Nat) : (FW ro).room k := fun _ h => by cases h
theorem FW_calls {P : Program} {f : FuncId} {args : Array Value} {w : World} {R : Ending → World → Prop} {k : Nat} : CallsIn (FW ro) k P f args w R ↔ Calls P f args w R :=
  (show CallsIn (FW ro) k P f args w R ↔ CallsIn Fence.wide k P f args w R from Iff.rfl).trans callsIn_wide
structure Fr where
  g : Nat → Value
  ds : List Deferred
instance : CoeFun Fr (fun _ => Nat → Value) := ⟨Fr.g⟩
def upv (f : Nat → Value) (d : Nat) (v : Value) : Nat → Value := fun i => cond (Nat.beq i d) v (f i)
theorem upv_same (f : Nat → Value) (d : Nat) (v : Value) : upv f d v d = v := by simp [upv]
theorem upv_ne (f : Nat → Value) (d : Nat) (v : Value) {i : Nat} (h : i ≠ d) : upv f d v i = f i := by
  have : Nat.beq i d = false := by cases hb : Nat.beq i d with
    | false => rfl
    | true => exact absurd (Nat.eq_of_beq_eq_true hb) h
  simp [upv, this]
def upd (f : Fr) (d : Nat) (v : Value) : Fr := ⟨fun i => cond (Nat.beq i d) v (f i), f.ds⟩
def updO (f : Fr) (d : Option Nat) (v : Value) : Fr := match d with | some d => upd f d v | none => f
theorem upd_same (f : Fr) (d : Nat) (v : Value) : upd f d v d = v := by simp [upd]
theorem upd_ne (f : Fr) (d : Nat) (v : Value) {i : Nat} (h : i ≠ d) : upd f d v i = f i := upv_ne f d v h
structure Fits (n : Nat) (a : Act) (f : Fr) : Prop where
  size : a.tmps.size = n
  defers : a.defers = f.ds
  at_ : ∀ i, a.tmps.getD i undef = f i
def ev (f : Fr) : Operand → Value
  | .tmp t => f t
  | .const v => v
  | .global g => .pointer (some ⟨g, 0, none⟩)
  | .func k => .func (.func k) #[] #[]
theorem Fits.eval {n : Nat} {a : Act} {f : Fr} (h : Fits n a f) : a.eval = ev f := by
  funext x
  cases x with
  | tmp t => exact h.at_ t
  | const v => rfl
  | global g => rfl
  | func k => rfl
theorem Fits.put {n : Nat} {a : Act} {f : Fr} (h : Fits n a f) {d : Nat} (hd : Nat.blt d n = true) (v : Value) : Fits n (a.put (some d) v) (upd f d v) := by
  have hlt : d < n := by have := Nat.le_of_ble_eq_true hd; omega
  refine ⟨by simp [Act.put, h.size], h.defers, fun i => ?_⟩
  by_cases e : i = d
  · subst e
    rw [upd_same]
    have : i < a.tmps.size := by rw [h.size]; exact hlt
    simp [Act.put, Array.getD_eq_getD_getElem?, this]
  · rw [upd_ne _ _ _ e, ← h.at_ i]
    simp [Act.put, Array.getD_eq_getD_getElem?, Ne.symm e]
def dstOk (n : Nat) : Option Nat → Bool
  | some d => Nat.blt d n
  | none => true
theorem Fits.putO {n : Nat} {a : Act} {f : Fr} (h : Fits n a f) {d : Option Nat} (hd : dstOk n d = true) (v : Value) : Fits n (a.put d v) (updO f d v) := by
  cases d with
  | none => exact h
  | some d => exact h.put hd v
theorem Fits.enter {n : Nat} {args : Array Value} (hn : args.size ≤ n) :
    Fits n { tmps := args ++ Array.replicate (n - args.size) undef, defers := [] } ⟨fun i => args.getD i undef, []⟩ := by
  refine ⟨by simp; omega, rfl, fun i => ?_⟩
  simp only [Array.getD_eq_getD_getElem?, Array.getElem?_append, Array.getElem?_replicate]
  split
  · rfl
  · rename_i h
    have : args[i]? = none := by simp; omega
    rw [this]
    split <;> rfl
section code
variable {P : Program} {n : Nat}
def Ends (n : Nat) (N R : Fr → World → Prop) (X : Nat → Fr → World → Prop) (e : Exit) (a : Act) (w : World) : Prop :=
  ∃ f, Fits n a f ∧ match e with
    | .normal => N f w
    | .ret => R f w
    | .exit i => X i f w
    | _ => False
def WP (P : Program) (n : Nat) (ro : Option Nat) (c : Code) (N R : Fr → World → Prop) (X : Nat → Fr → World → Prop) (f : Fr) (w : World) : Prop :=
  ∀ a, Fits n a f → c.wpIn (FW ro) 0 P (Ends n N R X) a w
variable {N R : Fr → World → Prop} {X : Nat → Fr → World → Prop} {f : Fr} {w : World}
theorem WP.mono {c : Code} {N' R' : Fr → World → Prop} {X' : Nat → Fr → World → Prop} (h : WP P n ro c N R X f w)
    (hN : ∀ f w, N f w → N' f w) (hR : ∀ f w, R f w → R' f w) (hX : ∀ i f w, X i f w → X' i f w) : WP P n ro c N' R' X' f w := by
  intro a ha
  refine Go.wpIn_mono (h a ha) fun e a w hq => ?_
  obtain ⟨f, hf, hq⟩ := hq
  refine ⟨f, hf, ?_⟩
  cases e <;> first | exact hN _ _ hq | exact hR _ _ hq | exact hX _ _ _ hq | exact hq
theorem ab_ {x y : Code} (h : WP P n ro x (fun f w => WP P n ro y N R X f w) R X f w) : WP P n ro (.seq x y) N R X f w := by
  intro a ha
  refine Go.wpIn_seq (Go.wpIn_mono (h a ha) fun e a w hq => ?_)
  obtain ⟨f, hf, hq⟩ := hq
  cases e with
  | normal => exact hq a hf
  | ret => exact ⟨f, hf, hq⟩
  | exit i => exact ⟨f, hf, hq⟩
  | goto l => exact hq.elim
  | panic c => exact hq.elim
  | outgrown => exact hq.elim
theorem ks_ {x y : Code} (M : Fr → World → Prop) (h : WP P n ro x M R X f w) (k : ∀ f w, M f w → WP P n ro y N R X f w) : WP P n ro (.seq x y) N R X f w :=
  ab_ (h.mono (fun f w hm => k f w hm) (fun _ _ h => h) (fun _ _ _ h => h))
theorem ar_ (h : N f w) : WP P n ro .skip N R X f w := fun _ ha => Go.wpIn_skip ⟨f, ha, h⟩
theorem ak_ (h : R f w) : WP P n ro .ret N R X f w := fun _ ha => Go.wpIn_ret ⟨f, ha, h⟩
theorem bk_ {i : Nat} (h : X i f w) : WP P n ro (.exit i) N R X f w := fun _ ha => Go.wpIn_exit ⟨f, ha, h⟩
theorem au_ {i : Nat} {c : Code} (h : WP P n ro c N R (fun j => cond (Nat.beq j i) N (X j)) f w) : WP P n ro (.block i c) N R X f w := by
  intro a ha
  refine Go.wpIn_block (Go.wpIn_mono (h a ha) fun e a w hq => ?_)
  obtain ⟨f, hf, hq⟩ := hq
  cases e with
  | normal => exact ⟨f, hf, hq⟩
  | ret => exact ⟨f, hf, hq⟩
  | exit j =>
    by_cases e : j = i
    · subst e
      simp only [Exit.inBlock, if_true]
      have : Nat.beq j j = true := Nat.beq_refl j
      simp only [this, cond_true] at hq
      exact ⟨f, hf, hq⟩
    · simp only [Exit.inBlock, e, if_false]
      have : Nat.beq j i = false := by cases hb : Nat.beq j i with
        | false => rfl
        | true => exact absurd (Nat.eq_of_beq_eq_true hb) e
      simp only [this, cond_false] at hq
      exact ⟨f, hf, hq⟩
  | goto l => exact hq.elim
  | panic c => exact hq.elim
  | outgrown => exact hq.elim
theorem ah_ {c : Operand} {x y : Code} {b : Bool} (hc : ev f c = .bool b) (hb : b = true) (h : WP P n ro x N R X f w) : WP P n ro (.cond c x y) N R X f w := by
  intro a ha
  subst hb
  exact Go.wpIn_cond_true (by rw [ha.eval]; exact hc) (h a ha)
theorem ai_ {c : Operand} {x y : Code} {b : Bool} (hc : ev f c = .bool b) (hb : b = false) (h : WP P n ro y N R X f w) : WP P n ro (.cond c x y) N R X f w := by
  intro a ha
  subst hb
  exact Go.wpIn_cond_false (by rw [ha.eval]; exact hc) (h a ha)
theorem yi_ {σ : Type} {c : Code} (I : σ → Fr → World → Prop) (μ : σ → Nat) (s : σ) (h0 : I s f w)
    (round : ∀ s f w, I s f w → WP P n ro c (fun f' w' => ∃ s', μ s' < μ s ∧ I s' f' w') R X f w) : WP P n ro (.loop c) N R X f w := by
  intro a ha b k cs hro hb hr
  have key : ∀ m, ∀ s f w a, μ s = m → I s f w → Fits n a f →
      ∃ e a' w', Ends n N R X e a' w' ∧ ArrivesIn (Machine.fenced P (FW ro)) P (lone (b.atR a (.code c :: .inLoop c :: k)) cs w) b k cs e a' w' := by
    intro m
    induction m using Nat.strongRecOn with
    | _ m ih =>
      intro s f w a hm hI ha
      obtain ⟨e, a₁, w₁, hq, harr⟩ := round s f w hI a ha b (.inLoop c :: k) cs hro hb hr
      obtain ⟨f₁, hf₁, hq⟩ := hq
      cases e with
      | normal =>
        obtain ⟨s', hlt, hI'⟩ := hq
        obtain ⟨e₂, a₂, w₂, hq₂, harr₂⟩ := ih (μ s') (hm ▸ hlt) s' f₁ w₁ a₁ rfl hI' hf₁
        exact ⟨e₂, a₂, w₂, hq₂, .of_steps (StepsIn.trans harr (.one (fenced_calm hb hr rfl) stepR_inLoop)) harr₂⟩
      | exit id => exact ⟨_, a₁, w₁, ⟨f₁, hf₁, hq⟩, .pass (x := .inLoop c) rfl (fun _ _ => .inl (by simp)) harr⟩
      | goto l => exact hq.elim
      | ret => exact ⟨_, a₁, w₁, ⟨f₁, hf₁, hq⟩, .pass (x := .inLoop c) rfl (fun _ _ => .inl (by simp)) harr⟩
      | panic ch => exact hq.elim
      | outgrown => exact hq.elim
  obtain ⟨e, a', w', hq, harr⟩ := key _ s f w a rfl h0 ha
  exact ⟨e, a', w', hq, .of_steps (.one (fenced_calm hb hr rfl) stepR_loop) harr⟩
end code
def forN {σ ρ : Type} (body : Nat → σ → Option (σ ⊕ ρ)) : Nat → Nat → σ → Option (σ ⊕ ρ)
  | 0, _, s => some (.inl s)
  | k + 1, i, s =>
    match body i s with
    | none => none
    | some (.inl s') => forN body k (i + 1) s'
    | some (.inr r) => some (.inr r)
def oi_ {σ ρ : Type} (body : σ → Option (σ ⊕ ρ)) : Nat → σ → Option ρ
  | 0, _ => none
  | k + 1, s =>
    match body s with
    | none => none
    | some (.inl s') => oi_ body k s'
    | some (.inr r) => some r
theorem sh_ {σ ρ : Type} {body : σ → Option (σ ⊕ ρ)} {r : ρ} : ∀ {k m : Nat} {s : σ}, oi_ body k s = some r → k ≤ m → oi_ body m s = some r
  | 0, _, _, h, _ => by simp [oi_] at h
  | k + 1, 0, _, _, hm => by omega
  | k + 1, m + 1, s, h, hm => by
    unfold oi_ at h ⊢
    cases hb : body s with
    | none => rw [hb] at h; cases h
    | some o => cases o with
      | inl s' => rw [hb] at h; exact sh_ (k := k) (m := m) h (by omega)
      | inr r' => rw [hb] at h; exact h
theorem za_ {σ ρ : Type} {body : σ → Option (σ ⊕ ρ)} {r r' : ρ} {k m : Nat} {s : σ} (h : oi_ body k s = some r) (h' : oi_ body m s = some r') : r = r' := by
  have a := sh_ h (Nat.le_max_left k m)
  have b := sh_ h' (Nat.le_max_right k m)
  rw [a] at b
  exact Option.some.inj b
noncomputable def fo_ {σ ρ : Type} (body : σ → Option (σ ⊕ ρ)) (s : σ) : Option ρ :=
  @dite _ (∃ k r, oi_ body k s = some r) (Classical.propDecidable _) (fun h => some (Classical.choose (Classical.choose_spec h))) (fun _ => none)
theorem pa_ {σ ρ : Type} {body : σ → Option (σ ⊕ ρ)} {s : σ} {r : ρ} : fo_ body s = some r ↔ ∃ k, oi_ body k s = some r := by
  unfold fo_
  constructor
  · intro h
    split at h
    · rename_i hex
      have hs := Classical.choose_spec (Classical.choose_spec hex)
      rw [Option.some.inj h] at hs
      exact ⟨_, hs⟩
    · cases h
  · rintro ⟨k, hk⟩
    have hex : ∃ k r, oi_ body k s = some r := ⟨k, r, hk⟩
    rw [dif_pos hex]
    exact congrArg some (za_ (Classical.choose_spec (Classical.choose_spec hex)) hk)
theorem yl_ {σ ρ : Type} (body : σ → Option (σ ⊕ ρ)) (s : σ) :
    fo_ body s = match body s with | none => none | some (.inl s') => fo_ body s' | some (.inr r) => some r := by
  apply Option.ext
  intro r
  rw [pa_]
  constructor
  · rintro ⟨k, hk⟩
    cases k with
    | zero => simp [oi_] at hk
    | succ k =>
      unfold oi_ at hk
      cases hb : body s with
      | none => rw [hb] at hk; cases hk
      | some o => cases o with
        | inl s' => rw [hb] at hk; exact pa_.2 ⟨k, hk⟩
        | inr r' => rw [hb] at hk; exact hk
  · intro h
    cases hb : body s with
    | none => rw [hb] at h; cases h
    | some o => cases o with
      | inl s' =>
        rw [hb] at h
        obtain ⟨k, hk⟩ := pa_.1 h
        exact ⟨k + 1, by unfold oi_; rw [hb]; exact hk⟩
      | inr r' => rw [hb] at h; exact ⟨1, by unfold oi_; rw [hb]; exact h⟩
section loops
variable {P : Program} {n : Nat} {N R : Fr → World → Prop} {X : Nat → Fr → World → Prop} {f : Fr} {w : World}
theorem ex_ {σ ρ : Type} {c : Code} {body : Nat → σ → Option (σ ⊕ ρ)} {k : Nat} {s0 : σ} {out : σ ⊕ ρ} (I : Nat → σ → Fr → World → Prop)
    (hrun : forN body k 0 s0 = some out) (h0 : I 0 s0 f w)
    (round : ∀ i s f w o, i < k → I i s f w → body i s = some o → (∀ r, o = .inr r → out = .inr r) →
      WP P n ro c (fun f' w' => ∃ s', o = .inl s' ∧ I (i + 1) s' f' w') R X f w)
    (last : ∀ s f w, out = .inl s → I k s f w → WP P n ro c (fun _ _ => False) R X f w) : WP P n ro (.loop c) N R X f w := by
  refine yi_ (σ := Nat × Nat × σ) (fun g f w => g.1 + g.2.1 = k + 1 ∧ 1 ≤ g.1 ∧ I g.2.1 g.2.2 f w ∧ forN body (g.1 - 1) g.2.1 g.2.2 = some out) (fun g => g.1) (k + 1, 0, s0) ⟨by simp, by simp, h0, hrun⟩ ?_
  rintro ⟨m, i, s⟩ f w ⟨hm, hm1, hI, hr⟩
  simp only at hm hm1 hI hr
  cases m with
  | zero => omega
  | succ m =>
    cases m with
    | zero =>
      simp only [Nat.zero_add, Nat.sub_self, forN] at hr
      have : i = k := by omega
      subst this
      exact (last s f w (Option.some.inj hr).symm hI).mono (fun _ _ h => h.elim) (fun _ _ h => h) (fun _ _ _ h => h)
    | succ m =>
      simp only [Nat.add_sub_cancel, forN] at hr
      cases hb : body i s with
      | none => rw [hb] at hr; cases hr
      | some o =>
        rw [hb] at hr
        refine (round i s f w o (by omega) hI hb ?_).mono ?_ (fun _ _ h => h) (fun _ _ _ h => h)
        · rintro r rfl
          exact (Option.some.inj hr).symm
        · rintro f' w' ⟨s', rfl, hI'⟩
          exact ⟨(m + 1, i + 1, s'), by simp, by simp; omega, by simp, hI', by simpa using hr⟩
theorem kr_ {σ ρ : Type} {c : Code} {body : σ → Option (σ ⊕ ρ)} {s0 : σ} {out : ρ} (I : σ → Fr → World → Prop)
    (hrun : fo_ body s0 = some out) (h0 : I s0 f w)
    (round : ∀ s f w o, I s f w → body s = some o → (∀ r, o = .inr r → out = r) →
      WP P n ro c (fun f' w' => ∃ s', o = .inl s' ∧ I s' f' w') R X f w) : WP P n ro (.loop c) N R X f w := by
  obtain ⟨k, hk⟩ := pa_.1 hrun
  refine yi_ (σ := Nat × σ) (fun g f w => I g.2 f w ∧ oi_ body g.1 g.2 = some out) (fun g => g.1) (k, s0) ⟨h0, hk⟩ ?_
  rintro ⟨m, s⟩ f w ⟨hI, hr⟩
  simp only at hI hr
  cases m with
  | zero => simp [oi_] at hr
  | succ m =>
    unfold oi_ at hr
    cases hb : body s with
    | none => rw [hb] at hr; cases hr
    | some o =>
      rw [hb] at hr
      refine (round s f w o hI hb ?_).mono ?_ (fun _ _ h => h) (fun _ _ _ h => h)
      · rintro r rfl
        exact (Option.some.inj hr).symm
      · rintro f' w' ⟨s', rfl, hI'⟩
        exact ⟨(m, s'), by simp, hI', hr⟩
end loops
end Go.Proofs.YtlpdpeghgndmkaaGreat.Pad
end

section
namespace Go.Proofs.YtlpdpeghgndmkaaGreat.Pad
open Go
abbrev Hp := Nat → Option Obj
namespace Hp
def emp : Hp := fun _ => none
def one (g : Nat) (o : Obj) : Hp := fun b => if b = g then some o else none
def un (h k : Hp) : Hp := fun b => (h b).or (k b)
def Le (h k : Hp) : Prop := ∀ b o, h b = some o → k b = some o
def Disj (h k : Hp) : Prop := ∀ b, h b = none ∨ k b = none
def In (h : Hp) (w : World) : Prop := ∀ b o, h b = some o → w.heap[b]? = some o
theorem Le.refl (h : Hp) : h.Le h := fun _ _ e => e
theorem Le.trans {a b c : Hp} (h : a.Le b) (k : b.Le c) : a.Le c := fun x o e => k x o (h x o e)
theorem le_un_left (h k : Hp) : h.Le (un h k) := fun b o e => by simp [un, e]
theorem le_un_right {h k : Hp} (d : Disj h k) : k.Le (un h k) := fun b o e => by
  rcases d b with hn | hn
  · simp [un, hn, e]
  · rw [hn] at e; cases e
theorem un_le {h k m : Hp} (a : h.Le m) (b : k.Le m) : (un h k).Le m := fun x o e => by
  unfold un at e
  cases hh : h x with
  | none => rw [hh] at e; exact b x o (by simpa using e)
  | some y => rw [hh] at e; simp at e; subst e; exact a x y hh
theorem Disj.symm {h k : Hp} (d : Disj h k) : Disj k h := fun b => (d b).symm
theorem Disj.mono {h k h' k' : Hp} (d : Disj h k) (a : h'.Le h) (b : k'.Le k) : Disj h' k' := fun x => by
  rcases d x with e | e
  · left
    cases hx : h' x with
    | none => rfl
    | some o => rw [a x o hx] at e; cases e
  · right
    cases hx : k' x with
    | none => rfl
    | some o => rw [b x o hx] at e; cases e
theorem Disj.un {h k m : Hp} (a : Disj h m) (b : Disj k m) : Disj (Hp.un h k) m := fun x => by
  rcases a x with e | e
  · rcases b x with e' | e'
    · left; simp [Hp.un, e, e']
    · exact .inr e'
  · exact .inr e
theorem un_comm {h k : Hp} (d : Disj h k) : un h k = un k h := by
  funext b
  rcases d b with e | e <;> simp [un, e]
theorem un_assoc (a b c : Hp) : un (un a b) c = un a (un b c) := by
  funext x
  simp [un, Option.or_assoc]
theorem In.mono {h k : Hp} {w : World} (a : h.Le k) (i : k.In w) : h.In w := fun b o e => i b o (a b o e)
end Hp
structure PH where
  m : Hp
  os : Os
  out : Array (Nat × ByteArray)
structure PH.Le (S T : PH) : Prop where
  m : S.m.Le T.m
  os : T.os = S.os
  out : T.out = S.out
theorem PH.Le.refl (S : PH) : S.Le S := ⟨Hp.Le.refl _, rfl, rfl⟩
theorem PH.Le.trans {S T U : PH} (a : S.Le T) (b : T.Le U) : S.Le U := ⟨a.m.trans b.m, b.os.trans a.os, b.out.trans a.out⟩
structure HP where
  p : PH → Hp → Prop
  mono : ∀ {S T : PH} {h : Hp}, S.Le T → p S h → p T h
def HP.exact (h : Hp) : HP := ⟨fun _ k => k = h, fun _ e => e⟩
def Own (w : World) (S : PH) : Hp → List HP → Prop
  | U, [] => U.In w
  | U, A :: O => ∃ h, A.p S h ∧ Hp.Disj h U ∧ Own w S (Hp.un h U) O
structure Inv (w : World) (S : PH) (O : List HP) : Prop where
  os : w.os = S.os
  out : w.output = S.out
  own : Own w S S.m O
theorem Own.antitone {w : World} {S : PH} : ∀ {O : List HP} {U V : Hp}, V.Le U → Own w S U O → Own w S V O
  | [], _, _, hle, h => Hp.In.mono hle h
  | A :: O, U, V, hle, ⟨h, hA, hd, hr⟩ => ⟨h, hA, hd.mono (Hp.Le.refl _) hle, Own.antitone (Hp.un_le (Hp.le_un_left _ _) ((hle.trans (Hp.le_un_right hd)))) hr⟩
theorem Own.in_ {w : World} {S : PH} : ∀ {O : List HP} {U : Hp}, Own w S U O → U.In w
  | [], _, h => h
  | _ :: _, _, ⟨_, _, hd, hr⟩ => Hp.In.mono (Hp.le_un_right hd) (Own.in_ hr)
theorem Own.upS {w : World} {S T : PH} (hst : S.Le T) : ∀ {O : List HP} {U : Hp}, Own w S U O → Own w T U O
  | [], _, h => h
  | A :: O, U, ⟨h, hA, hd, hr⟩ => ⟨h, A.mono hst hA, hd, Own.upS hst hr⟩
theorem Own.swap {w : World} {S : PH} {A B : HP} {O : List HP} {U : Hp} : Own w S U (A :: B :: O) → Own w S U (B :: A :: O) := by
  rintro ⟨h, hA, hd, k, hB, hd', hr⟩
  have dk : Hp.Disj k h := hd'.mono (Hp.Le.refl _) (Hp.le_un_left _ _)
  have du : Hp.Disj k U := hd'.mono (Hp.Le.refl _) (Hp.le_un_right hd)
  refine ⟨k, hB, du, h, hA, ?_, ?_⟩
  · exact Hp.Disj.symm (Hp.Disj.un dk hd.symm)
  · rw [← Hp.un_assoc, Hp.un_comm dk.symm, Hp.un_assoc]
    exact hr
theorem Own.cons_congr {w : World} {S : PH} {A : HP} {O O' : List HP} (h : ∀ U, Own w S U O → Own w S U O') {U : Hp} : Own w S U (A :: O) → Own w S U (A :: O') := by
  rintro ⟨k, hA, hd, hr⟩
  exact ⟨k, hA, hd, h _ hr⟩
theorem Own.perm {w : World} {S : PH} {O O' : List HP} (hp : O.Perm O') : ∀ U, Own w S U O → Own w S U O' := by
  induction hp with
  | nil => exact fun _ h => h
  | cons A _ ih => exact fun U h => Own.cons_congr ih h
  | swap A B l => exact fun U h => Own.swap h
  | trans _ _ a b => exact fun U h => b U (a U h)
section
variable {w w' : World} {S T : PH} {O O' : List HP} {A B : HP}
theorem Inv.perm (h : Inv w S O) (hp : O.Perm O') : Inv w S O' := ⟨h.os, h.out, Own.perm hp _ h.own⟩
theorem Inv.swap (h : Inv w S (A :: B :: O)) : Inv w S (B :: A :: O) := ⟨h.os, h.out, Own.swap h.own⟩
theorem Inv.in_ (h : Inv w S O) : S.m.In w := Own.in_ h.own
theorem Inv.drop (h : Inv w S (A :: O)) : Inv w S O := by
  obtain ⟨k, _, hd, hr⟩ := h.own
  exact ⟨h.os, h.out, Own.antitone (Hp.le_un_right hd) hr⟩
def pull {α : Type} : Nat → List α → List α
  | 0, l => l
  | _ + 1, [] => []
  | i + 1, a :: l => match pull i l with
    | [] => [a]
    | b :: r => b :: a :: r
theorem yu_ {α : Type} : ∀ (i : Nat) (l : List α), l.Perm (pull i l)
  | 0, l => .refl _
  | _ + 1, [] => .refl _
  | i + 1, a :: l => by
    have ih := yu_ i l
    unfold pull
    cases hp : pull i l with
    | nil =>
      rw [hp] at ih
      simp only
      exact .cons a ih
    | cons b r =>
      rw [hp] at ih
      simp only
      exact (List.Perm.cons a ih).trans (List.Perm.swap b a r)
theorem Inv.pull (h : Inv w S O) (i : Nat) : Inv w S (pull i O) := h.perm (yu_ i O)
theorem Own.exactly {w : World} {S : PH} : ∀ {O : List HP} {U : Hp}, Own w S U O →
    ∃ hs : List Hp, Own w S U (hs.map HP.exact) ∧ (∀ w' S' V, Own w' S' V (hs.map HP.exact) → Own w' S V O)
  | [], U, h => ⟨[], h, fun _ _ _ h => h⟩
  | A :: O, U, ⟨h, hA, hd, hr⟩ => by
    obtain ⟨hs, h1, h2⟩ := Own.exactly hr
    refine ⟨h :: hs, ⟨h, rfl, hd, h1⟩, ?_⟩
    rintro w' S' V ⟨k, rfl, hd', hr'⟩
    exact ⟨_, hA, hd', h2 _ _ _ hr'⟩
theorem Inv.exactly (h : Inv w S O) : ∃ Fr : List HP, Inv w S Fr ∧ ∀ {w' T}, Inv w' T Fr → S.Le T → Inv w' S O := by
  obtain ⟨hs, h1, h2⟩ := Own.exactly h.own
  refine ⟨hs.map HP.exact, ⟨h.os, h.out, h1⟩, fun {w' T} h' hst => ⟨h'.os.trans hst.os, h'.out.trans hst.out, ?_⟩⟩
  exact Own.antitone hst.m (h2 _ _ _ h'.own)
theorem Inv.freeze (h : Inv w S (A :: O)) : ∃ T k, S.Le T ∧ Inv w T O ∧ A.p S k ∧ k.Le T.m := by
  obtain ⟨k, hA, hd, hr⟩ := h.own
  have hle : S.Le ⟨Hp.un k S.m, S.os, S.out⟩ := ⟨Hp.le_un_right hd, rfl, rfl⟩
  exact ⟨⟨Hp.un k S.m, S.os, S.out⟩, k, hle, ⟨h.os, h.out, Own.upS hle hr⟩, hA, Hp.le_un_left _ _⟩
def HP.Free (A : HP) : Prop := ∀ S T h, A.p S h → A.p T h
theorem Own.world (hh : ∀ (b : Nat) (o : Obj), w.heap[b]? = some o → w'.heap[b]? = some o) : ∀ {O : List HP} {U : Hp}, Own w S U O → Own w' S U O
  | [], _, h => fun b o e => hh b o (h b o e)
  | A :: O, U, ⟨k, hA, hd, hr⟩ => ⟨k, hA, hd, Own.world hh hr⟩
theorem Inv.world (h : Inv w S O) (hos : w'.os = w.os) (hout : w'.output = w.output) (hh : ∀ (b : Nat) (o : Obj), w.heap[b]? = some o → w'.heap[b]? = some o) : Inv w' S O :=
  ⟨hos.trans h.os, hout.trans h.out, Own.world hh h.own⟩
theorem Inv.drew (h : Inv w S O) : Inv w.drew S O := h.world rfl rfl fun _ _ e => e
theorem Own.lt : ∀ {O : List HP} {U : Hp}, Own w S U O → ∀ b o, U b = some o → b < w.heap.size := by
  intro O U h b o e
  have := Own.in_ h b o e
  exact (Array.getElem?_eq_some_iff.1 this).1
theorem Own.new {o : Obj} (hw : w' = w.alloc o) : ∀ {O : List HP} {U : Hp}, Own w S U O → Hp.Disj (Hp.one w.heap.size o) U ∧ Own w' S (Hp.un (Hp.one w.heap.size o) U) O
  | [], U, h => by
    have hd : Hp.Disj (Hp.one w.heap.size o) U := fun b => by
      by_cases e : b = w.heap.size
      · right
        cases hu : U b with
        | none => rfl
        | some x => have := Own.lt (O := []) h b x hu; omega
      · left; simp [Hp.one, e]
    refine ⟨hd, ?_⟩
    intro b x e
    subst hw
    unfold Hp.un Hp.one at e
    by_cases hb : b = w.heap.size
    · subst hb
      simp at e
      subst e
      exact heap_alloc_new w o
    · simp [hb] at e
      have := h b x e
      rw [heap_alloc_old w o b (Array.getElem?_eq_some_iff.1 this).1]
      exact this
  | A :: O, U, ⟨k, hA, hd, hr⟩ => by
    obtain ⟨hd', hr'⟩ := Own.new hw hr
    have d1 : Hp.Disj (Hp.one w.heap.size o) k := hd'.mono (Hp.Le.refl _) (Hp.le_un_left _ _)
    have d2 : Hp.Disj (Hp.one w.heap.size o) U := hd'.mono (Hp.Le.refl _) (Hp.le_un_right hd)
    refine ⟨d2, k, hA, Hp.Disj.symm (Hp.Disj.un d1 hd.symm), ?_⟩
    rw [← Hp.un_assoc, Hp.un_comm d1.symm, Hp.un_assoc]
    exact hr'
theorem Inv.new (h : Inv w S O) (o : Obj) : Inv (w.alloc o) S (HP.exact (Hp.one w.heap.size o) :: O) := by
  obtain ⟨hd, hr⟩ := Own.new (w' := w.alloc o) rfl h.own
  exact ⟨h.os, h.out, _, rfl, hd, hr⟩
theorem Own.turn {k k' : Hp} (hdom : ∀ b, k b = none ↔ k' b = none) (hw : ∀ b, k b = none → w'.heap[b]? = w.heap[b]?) (hin : k'.In w') :
    ∀ {O : List HP} {U : Hp}, Hp.Disj k U → Own w S (Hp.un k U) O → Own w' S (Hp.un k' U) O
  | [], U, hd, h => by
    intro b o e
    unfold Hp.un at e
    cases hk : k' b with
    | some x => rw [hk] at e; simp at e; subst e; exact hin b x hk
    | none =>
      rw [hk] at e
      simp at e
      rw [hw b ((hdom b).2 hk)]
      exact h b o (Hp.le_un_right hd b o e)
  | A :: O, U, hd, ⟨m, hA, hd', hr⟩ => by
    have d1 : Hp.Disj m k := hd'.mono (Hp.Le.refl _) (Hp.le_un_left _ _)
    have d2 : Hp.Disj m U := hd'.mono (Hp.Le.refl _) (Hp.le_un_right hd)
    have d1' : Hp.Disj m k' := fun b => by
      rcases d1 b with e | e
      · exact .inl e
      · exact .inr ((hdom b).1 e)
    have ddu : Hp.Disj k' U := fun b => by
      rcases hd b with e | e
      · exact .inl ((hdom b).1 e)
      · exact .inr e
    refine ⟨m, hA, Hp.Disj.symm (Hp.Disj.un d1'.symm d2.symm), ?_⟩
    have hr' : Own w S (Hp.un k (Hp.un m U)) O := by
      rw [← Hp.un_assoc, Hp.un_comm d1.symm, Hp.un_assoc]
      exact hr
    have := Own.turn hdom hw hin (U := Hp.un m U) (Hp.Disj.symm (Hp.Disj.un d1 hd.symm)) hr'
    rw [← Hp.un_assoc, Hp.un_comm d1', Hp.un_assoc]
    exact this
theorem Inv.turn {k k' : Hp} (h : Inv w S (HP.exact k :: O)) (hos : w'.os = w.os) (hout : w'.output = w.output)
    (hdom : ∀ b, k b = none ↔ k' b = none) (hw : ∀ b, k b = none → w'.heap[b]? = w.heap[b]?) (hin : k'.In w') : Inv w' S (HP.exact k' :: O) := by
  obtain ⟨m, rfl, hd, hr⟩ := h.own
  refine ⟨hos.trans h.os, hout.trans h.out, k', rfl, fun b => ?_, Own.turn hdom hw hin hd hr⟩
  rcases hd b with e | e
  · exact .inl ((hdom b).1 e)
  · exact .inr e
theorem Inv.open_ (h : Inv w S (A :: O)) : ∃ k, A.p S k ∧ Inv w S (HP.exact k :: O) := by
  obtain ⟨k, hA, hd, hr⟩ := h.own
  exact ⟨k, hA, h.os, h.out, k, rfl, hd, hr⟩
theorem Inv.shut {k : Hp} (h : Inv w S (HP.exact k :: O)) (hA : A.p S k) : Inv w S (A :: O) := by
  obtain ⟨m, rfl, hd, hr⟩ := h.own
  exact ⟨h.os, h.out, _, hA, hd, hr⟩
theorem Inv.front {k : Hp} (h : Inv w S (HP.exact k :: O)) : k.In w := by
  obtain ⟨m, rfl, hd, hr⟩ := h.own
  exact Hp.In.mono (Hp.le_un_left _ _) (Own.in_ hr)
end
def am_ (g : Nat) (T : TypeId) (cs : Array Value) : HP := HP.exact (Hp.one g (.cells cs T (0, 0)))
section
variable {w : World} {S : PH} {O : List HP} {g : Nat} {T : TypeId} {cs cs' : Array Value}
theorem Inv.blk (h : Inv w S (am_ g T cs :: O)) : w.heap[g]? = some (.cells cs T (0, 0)) := Inv.front h g _ (by simp [Hp.one])
theorem Inv.cell (h : Inv w S (am_ g T cs :: O)) (i : Nat) : w.cell? ⟨g, i, none⟩ = cs[i]? := cell_of_row w g i cs T (0, 0) h.blk
theorem Inv.setRow (h : Inv w S (am_ g T cs :: O)) : Inv (w.setRow g cs') S (am_ g T cs' :: O) := by
  have hb := h.blk
  refine Inv.turn (w := w) h rfl rfl (fun b => ?_) (fun b hn => ?_) (fun b o e => ?_)
  · by_cases e : b = g <;> simp [Hp.one, e]
  · have hne : b ≠ g := by rintro rfl; simp [Hp.one] at hn
    exact setRow_other w g b cs' hne
  · unfold Hp.one at e
    by_cases hbg : b = g
    · subst hbg
      simp at e
      subst e
      exact setRow_heap w b cs cs' T (0, 0) hb
    · simp [hbg] at e
theorem Inv.alloc (h : Inv w S O) (T : TypeId) (cs : Array Value) : Inv (w.alloc (.cells cs T)) S (am_ w.heap.size T cs :: O) := h.new _
end
end Go.Proofs.YtlpdpeghgndmkaaGreat.Pad
end

section
namespace Go.Proofs.YtlpdpeghgndmkaaGreat.Pad
open Go
variable {ro : Option Nat}
def PH.cell (S : PH) (a : Addr) : Option Value :=
  match S.m a.block with
  | some (.cells c _ _) => if a.spot.isSome then none else c[a.off]?
  | _ => none
theorem PH.cell_in {S : PH} {w : World} (h : S.m.In w) {a : Addr} {u : Value} (hc : S.cell a = some u) : w.cell? a = some u := by
  unfold PH.cell at hc
  cases hm : S.m a.block with
  | none => rw [hm] at hc; cases hc
  | some o =>
    rw [hm] at hc
    have := h _ _ hm
    unfold World.cell?
    rw [this]
    cases o <;> first | exact hc | cases hc
theorem PH.cell_le {S T : PH} (h : S.Le T) {a : Addr} {u : Value} (hc : S.cell a = some u) : T.cell a = some u := by
  unfold PH.cell at hc ⊢
  cases hm : S.m a.block with
  | none => rw [hm] at hc; cases hc
  | some o => rw [hm] at hc; rw [h.m _ _ hm]; exact hc
class Enc (α : Type) where
  agg : Bool
  sz : Nat
  rep : PH → List Value → α → Prop
  len : ∀ {S cs x}, rep S cs x → cs.length = sz
  one : agg = false → sz = 1
  cell1 : ∀ {S cs x}, rep S cs x → ∀ v ∈ cs, v.oneCell' = true
  mono : ∀ {S T cs x}, S.Le T → rep S cs x → rep T cs x
def mkV : Bool → List Value → Value
  | true, cs => .agg cs.toArray
  | false, cs => cs.headD undef
def RV {α : Type} [Enc α] (S : PH) (v : Value) (x : α) : Prop := ∃ cs, Enc.rep S cs x ∧ v = mkV (Enc.agg α) cs
theorem RV.mono {α : Type} [Enc α] {S T : PH} {v : Value} {x : α} (h : RV S v x) (hle : S.Le T) : RV T v x := by
  obtain ⟨cs, hr, hv⟩ := h
  exact ⟨cs, Enc.mono hle hr, hv⟩
theorem RV.cells {α : Type} [Enc α] {S : PH} {v : Value} {x : α} (h : RV S v x) : Enc.rep S v.cells.toList x := by
  obtain ⟨cs, hr, rfl⟩ := h
  cases ha : Enc.agg α with
  | true => simpa [mkV, Value.cells] using hr
  | false =>
    have h1 := Enc.len hr
    rw [Enc.one ha] at h1
    match cs, h1 with
    | [c], _ =>
      have := Enc.cell1 hr c (by simp)
      have e : (mkV false [c]).cells = #[c] := by
        simp only [mkV, List.headD]
        cases c <;> first | rfl | (simp [Value.oneCell'] at this)
      rw [e]
      simpa using hr
instance : Enc Int where
  agg := false
  sz := 1
  rep _ cs n := cs = [.int .i64 n]
  len h := by rw [h]; rfl
  one _ := rfl
  cell1 h := by intro v hv; rw [h] at hv; simp at hv; subst hv; rfl
  mono _ h := h
instance : Enc Bool where
  agg := false
  sz := 1
  rep _ cs b := cs = [.bool b]
  len h := by rw [h]; rfl
  one _ := rfl
  cell1 h := by intro v hv; rw [h] at hv; simp at hv; subst hv; rfl
  mono _ h := h
theorem rv_int {S : PH} {v : Value} {n : Int} (h : RV S v n) : v = .int .i64 n := by
  obtain ⟨cs, hr, rfl⟩ := h
  have hr : cs = [.int .i64 n] := hr
  subst hr
  rfl
theorem rv_bool {S : PH} {v : Value} {n : Bool} (h : RV S v n) : v = .bool n := by
  obtain ⟨cs, hr, rfl⟩ := h
  have hr : cs = [.bool n] := hr
  subst hr
  rfl
theorem dv_ {S : PH} (n : Int) : RV S (.int .i64 n) n := ⟨[.int .i64 n], rfl, rfl⟩
theorem rv_bool' {S : PH} (n : Bool) : RV S (.bool n) n := ⟨[.bool n], rfl, rfl⟩
def RowAt {α : Type} [Enc α] (cell : Addr → Option Value) (S : PH) (ad : Addr) (l : List α) : Prop :=
  ∀ i x, l[i]? = some x → ∃ es, Enc.rep S es x ∧ ∀ j u, es[j]? = some u → cell (ad.add (i * Enc.sz α + j)) = some u
instance instEncList {α : Type} [Enc α] : Enc (List α) where
  agg := false
  sz := 1
  rep S cs l := ∃ a cap, cs = [.slice a l.length cap] ∧ l.length ≤ cap ∧ cap ≤ maxLen ∧ (a = none → l = [] ∧ cap = 0) ∧ ∀ ad, a = some ad → RowAt S.cell S ad l
  len h := by obtain ⟨a, cap, e, _⟩ := h; rw [e]; rfl
  one _ := rfl
  cell1 h := by obtain ⟨a, cap, e, _⟩ := h; intro v hv; rw [e] at hv; simp at hv; subst hv; rfl
  mono hle h := by
    obtain ⟨a, cap, e, hl, hm, hn, hr⟩ := h
    refine ⟨a, cap, e, hl, hm, hn, fun ad ha i x hx => ?_⟩
    obtain ⟨es, h1, h2⟩ := hr ad ha i x hx
    exact ⟨es, Enc.mono hle h1, fun j u hu => PH.cell_le hle (h2 j u hu)⟩
theorem kc_ {α : Type} [Enc α] {S : PH} {v : Value} {l : List α} (h : RV S v l) :
    ∃ a cap, v = .slice a l.length cap ∧ l.length ≤ cap ∧ cap ≤ maxLen ∧ (a = none → l = [] ∧ cap = 0) ∧ ∀ ad, a = some ad → RowAt S.cell S ad l := by
  obtain ⟨cs, ⟨a, cap, rfl, h⟩, rfl⟩ := h
  exact ⟨a, cap, rfl, h⟩
theorem qx_ {α : Type} [Enc α] {S : PH} {l : List α} {a : Option Addr} {cap : Nat} (h : l.length ≤ cap ∧ cap ≤ maxLen ∧ (a = none → l = [] ∧ cap = 0) ∧ ∀ ad, a = some ad → RowAt S.cell S ad l) :
    RV S (.slice a l.length cap) l := ⟨_, ⟨a, cap, rfl, h⟩, rfl⟩
theorem rv_nil {α : Type} [Enc α] {S : PH} : RV S (.slice none 0 0) ([] : List α) :=
  qx_ (l := ([] : List α)) ⟨Nat.le_refl _, by simp [maxLen], fun _ => ⟨rfl, rfl⟩, fun _ h => by cases h⟩
instance instEncProd {α β : Type} [Enc α] [Enc β] : Enc (α × β) where
  agg := true
  sz := Enc.sz α + Enc.sz β
  rep S cs x := ∃ a b, cs = a ++ b ∧ Enc.rep S a x.1 ∧ Enc.rep S b x.2
  len h := by obtain ⟨a, b, rfl, h1, h2⟩ := h; rw [List.length_append, Enc.len h1, Enc.len h2]
  one h := by cases h
  cell1 h := by
    obtain ⟨a, b, rfl, h1, h2⟩ := h
    intro v hv
    rcases List.mem_append.1 hv with h | h
    · exact Enc.cell1 h1 v h
    · exact Enc.cell1 h2 v h
  mono hle h := by
    obtain ⟨a, b, e, h1, h2⟩ := h
    exact ⟨a, b, e, Enc.mono hle h1, Enc.mono hle h2⟩
@[reducible] def encBy {σ τ : Type} [Enc τ] (f : σ → τ) : Enc σ where
  agg := true
  sz := Enc.sz τ
  rep S cs x := Enc.rep S cs (f x)
  len h := Enc.len h
  one h := by cases h
  cell1 h := Enc.cell1 h
  mono hle h := Enc.mono hle h
theorem ik_ (a : Addr) (i j : Nat) : (a.add i).add j = a.add (i + j) := by
  unfold Addr.add
  by_cases hi : i = 0 <;> by_cases hj : j = 0 <;> simp [hi, hj, Nat.add_assoc]
def PtT {α : Type} [Enc α] (w : World) (S : PH) (p : Value) (x : α) : Prop :=
  ∃ a cs, p = .pointer (some a) ∧ Enc.rep S cs x ∧ ∀ j u, cs[j]? = some u → w.cell? (a.add j) = some u
def an_ (p : Value) (off : Nat) : Value := match p with
  | .pointer (some a) => .pointer (some (a.add off))
  | v => v
def af_ (v : Value) (i : Int) (sz : Nat) : Value := match v with
  | .slice (some a) _ _ => .pointer (some (a.add (i.toNat * sz)))
  | v => v
def Fld (σ : Type) [Enc σ] {β : Type} [Enc β] (off : Nat) (get : σ → β) : Prop :=
  ∀ (S : PH) (cs : List Value) (x : σ), Enc.rep S cs x → ∃ a b c, cs = a ++ (b ++ c) ∧ a.length = off ∧ Enc.rep S b (get x)
theorem PtT.fld {σ β : Type} [Enc σ] [Enc β] {w : World} {S : PH} {p : Value} {x : σ} (h : PtT w S p x) {off : Nat} {get : σ → β} (hf : Fld σ off get) : PtT w S (an_ p off) (get x) := by
  obtain ⟨a, cs, rfl, hr, hc⟩ := h
  obtain ⟨A, B, C, rfl, ho, hb⟩ := hf S cs x hr
  refine ⟨a.add off, B, rfl, hb, fun j u hu => ?_⟩
  rw [ik_]
  refine hc (off + j) u ?_
  rw [List.getElem?_append_right (by omega), ho, Nat.add_sub_cancel_left]
  have hj : j < B.length := (List.getElem?_eq_some_iff.1 hu).1
  rw [List.getElem?_append_left hj]
  exact hu
def at? {α : Type} (l : List α) (i : Int) : Option α := if 0 ≤ i then l[i.toNat]? else none
theorem df_ {α : Type} {l : List α} {i : Int} {x : α} (h : at? l i = some x) : 0 ≤ i ∧ i.toNat < l.length ∧ l[i.toNat]? = some x := by
  unfold at? at h
  split at h
  · exact ⟨‹_›, (List.getElem?_eq_some_iff.1 h).1, h⟩
  · cases h
theorem qp_ {α : Type} (l : List α) (i : Nat) : at? l (i : Int) = l[i]? := by
  unfold at?
  rw [if_pos (by omega), Int.toNat_natCast]
theorem RV.elem {α : Type} [Enc α] {S : PH} {v : Value} {l : List α} (h : RV S v l) {w : World} (hin : S.m.In w) {i : Int} {x : α} (hx : at? l i = some x) : PtT w S (af_ v i (Enc.sz α)) x := by
  obtain ⟨a, cap, rfl, hl, hm, hn, hr⟩ := kc_ h
  obtain ⟨h0, hlt, hx⟩ := df_ hx
  cases a with
  | none => rw [(hn rfl).1] at hlt; simp at hlt
  | some ad =>
    obtain ⟨es, h1, h2⟩ := hr ad rfl _ _ hx
    refine ⟨_, es, rfl, h1, fun j u hu => ?_⟩
    rw [ik_]
    exact PH.cell_in hin (h2 j u hu)
def OP (P : Program) (n : Nat) (ro : Option Nat) (o : Oper) (f : Fr) (w : World) (K : Fr → World → Prop) : Prop :=
  ∀ a, Fits n a f → ∀ Q, o.wpIn (FW ro) 0 P a w (fun a' w' => ∃ f', Fits n a' f' ∧ K f' w') Q
theorem qw_ {P : Program} {o : Oper} {e : Operand → Value} {w w' : World} {x : Next} (h : (execOp e o).run P w = .ok x w') (hx : ∀ d, x ≠ .defer d) : (o.semAt ro e).run P w = .ok x w' := by
  rw [Oper.semAt_eq]
  · exact h
  · intro c hc
    obtain ⟨d, op, ty, pos, af, gd⟩ := o
    simp only at hc
    subst hc
    simp only [execOp, Sem.run_bind] at h
    cases hq : (resolve e c ty).run P w with
    | halt y w'' => rw [hq] at h; cases h
    | ok y w'' =>
      rw [hq] at h
      simp only [Result.andThen_ok, Sem.run_pure] at h
      injection h with h1 h2
      exact hx _ h1.symm
section
variable {P : Program} {n : Nat} {o : Oper} {f : Fr} {w w' : World} {K : Fr → World → Prop} {v : Value}
theorem OP.mono {K' : Fr → World → Prop} (h : OP P n ro o f w K) (hk : ∀ f w, K f w → K' f w) : OP P n ro o f w K' := fun a ha Q =>
  Oper.wpIn_mono (fun a w ⟨f', hf, hk'⟩ => ⟨f', hf, hk _ _ hk'⟩) (h a ha Q)
theorem dd_ {d : Nat} {op : Op} {ty : TypeId} {pos : String} {af : Array Edge} {gd : Option (Nat × Bool)} (hd : Nat.blt d n = true)
    (h : (execOp (ev f) ⟨some d, op, ty, pos, af, gd⟩).run P w = .ok (.value v) w') (k : K (upd f d v) w') : OP P n ro ⟨some d, op, ty, pos, af, gd⟩ f w K := by
  intro a ha Q
  refine ⟨fun _ _ => trivial, ?_⟩
  rw [ha.eval, qw_ h (fun _ e => by cases e)]
  exact ⟨_, ha.put hd v, k⟩
theorem zv_ {op : Op} {ty : TypeId} {pos : String} {af : Array Edge} {gd : Option (Nat × Bool)}
    (h : (execOp (ev f) ⟨none, op, ty, pos, af, gd⟩).run P w = .ok .skip w') (k : K f w') : OP P n ro ⟨none, op, ty, pos, af, gd⟩ f w K := by
  intro a ha Q
  refine ⟨fun _ _ => trivial, ?_⟩
  rw [ha.eval, qw_ h (fun _ e => by cases e)]
  exact ⟨f, ha, k⟩
end
def WL (P : Program) (n : Nat) (ro : Option Nat) (ops : Array Oper) (N : Fr → World → Prop) (rest : List Oper) (f : Fr) (w : World) : Prop :=
  ∀ (R : Fr → World → Prop) (X : Nat → Fr → World → Prop) a, Fits n a f → wpListIn (FW ro) 0 P ops (Ends n N R X) rest a w
section
variable {P : Program} {n : Nat} {ops : Array Oper} {N R : Fr → World → Prop} {X : Nat → Fr → World → Prop} {rest : List Oper} {f : Fr} {w : World}
theorem aa_ {i : Nat} {l : List Oper} (h : WL P n ro l.toArray N l f w) : WP P n ro (.region i l.toArray false) N R X f w :=
  fun a ha => wpIn_region_lit (h R X a ha)
theorem ad_ (h : N f w) : WL P n ro ops N [] f w := fun _ _ _ ha => wpListIn_nil ⟨f, ha, h⟩
theorem wl_op {o : Oper} (hg : o.guard = none) (h : OP P n ro o f w (WL P n ro ops N rest)) : WL P n ro ops N (o :: rest) f w := by
  intro R X a ha
  unfold wpListIn
  rw [if_pos (by simp [Region.wanted, hg])]
  exact Oper.wpIn_mono (fun a' w' ⟨f', hf, hk⟩ => hk R X a' hf) (h a ha _)
theorem qs_ {a : Act} (ha : Fits n a f) {o : Oper} {j d : Nat} {b c : Bool} (hg : o.guard = some (j, b)) (hj : (ops[j]?).bind (·.dst) = some d) (hd : Nat.blt d n = true) (hv : f d = .bool c) :
    Region.wanted o (yielded ops a.tmps) = (c == b) := by
  have hlt : d < a.tmps.size := by rw [ha.size]; have := Nat.le_of_ble_eq_true hd; omega
  have : a.tmps[d]? = some (.bool c) := by
    have := ha.at_ d
    rw [hv, Array.getD_eq_getD_getElem?, Array.getElem?_eq_getElem hlt] at this
    rw [Array.getElem?_eq_getElem hlt]
    simpa using this
  simp [Region.wanted, hg, yielded, hj, this]
theorem wl_taken {o : Oper} {j d : Nat} {b c : Bool} (hg : o.guard = some (j, b)) (hj : (ops[j]?).bind (·.dst) = some d) (hd : Nat.blt d n = true) (hv : f d = .bool c) (hc : c = b)
    (h : OP P n ro o f w (WL P n ro ops N rest)) : WL P n ro ops N (o :: rest) f w := by
  intro R X a ha
  unfold wpListIn
  rw [if_pos (by rw [qs_ ha hg hj hd hv]; simp [hc])]
  exact Oper.wpIn_mono (fun a' w' ⟨f', hf, hk⟩ => hk R X a' hf) (h a ha _)
theorem wl_skip {o : Oper} {j d : Nat} {b c : Bool} (hg : o.guard = some (j, b)) (hj : (ops[j]?).bind (·.dst) = some d) (hd : Nat.blt d n = true) (hv : f d = .bool c) (hc : c = !b) (ho : dstOk n o.dst = true)
    (h : WL P n ro ops N rest (updO f o.dst undef) w) : WL P n ro ops N (o :: rest) f w := by
  intro R X a ha
  unfold wpListIn
  rw [if_neg (by rw [qs_ ha hg hj hd hv, hc]; cases b <;> simp)]
  exact ⟨fun _ _ => trivial, h R X _ (ha.putO ho undef)⟩
end
end Go.Proofs.YtlpdpeghgndmkaaGreat.Pad
end

section
namespace Go.Proofs.YtlpdpeghgndmkaaGreat.Pad
open Go
variable {ro : Option Nat}
def w64 (n : Int) : Int := IntKind.i64.wrap n
theorem en_ {n : Int} (h : -9223372036854775808 ≤ n) (h' : n ≤ 9223372036854775807) : w64 n = n := by
  unfold w64
  rw [IntKind.wrap_i64]
  omega
def dv (a b : Int) : Option Int := if b = 0 then none else some (w64 (a.tdiv b))
def md (a b : Int) : Option Int := if b = 0 then none else some (a.tmod b)
theorem dv_some {a b c : Int} (h : dv a b = some c) : b ≠ 0 ∧ c = w64 (a.tdiv b) := by
  unfold dv at h
  split at h
  · cases h
  · exact ⟨‹_›, (Option.some.inj h).symm⟩
theorem md_some {a b c : Int} (h : md a b = some c) : b ≠ 0 ∧ c = a.tmod b := by
  unfold md at h
  split at h
  · cases h
  · exact ⟨‹_›, (Option.some.inj h).symm⟩
def tm_ (a b : Int) : Int := if b < a then b else a
section
variable {P : Program} {n : Nat} {f : Fr} {w : World} {K : Fr → World → Prop} {d : Nat} {ty : TypeId} {pos : String} {af : Array Edge} {gd : Option (Nat × Bool)} {x y z : Operand} {v : Value} {T : TypeId}
theorem aq_ (hd : Nat.blt d n = true) (hv : ev f x = v) (k : K (upd f d v) w) : OP P n ro ⟨some d, .move x, ty, pos, af, gd⟩ f w K :=
  dd_ hd (by simp [execOp, hv]) k
theorem bn_ (hd : Nat.blt d n = true) (hv : ev f x = v) (k : K (upd f d v) w) : OP P n ro ⟨some d, .assign x, ty, pos, af, gd⟩ f w K :=
  dd_ hd (by simp [execOp, hv]) k
theorem op_pick {a b : Value} {c : Bool} (hd : Nat.blt d n = true) (hc : ev f x = .bool c) (ha : ev f y = a) (hb : ev f z = b) (k : K (upd f d (cond c a b)) w) :
    OP P n ro ⟨some d, .pick x y z, ty, pos, af, gd⟩ f w K :=
  dd_ hd (by cases c <;> simp [execOp, hc, ha, hb, asBool]) k
theorem aw_ {a : Value} {c : Bool} (hd : Nat.blt d n = true) (hc : ev f x = .bool c) (ht : c = true) (ha : ev f y = a) (k : K (upd f d a) w) :
    OP P n ro ⟨some d, .pick x y z, ty, pos, af, gd⟩ f w K :=
  op_pick hd hc ha rfl (by rw [ht]; exact k)
theorem ap_ {b : Value} {c : Bool} (hd : Nat.blt d n = true) (hc : ev f x = .bool c) (ht : c = false) (hb : ev f z = b) (k : K (upd f d b) w) :
    OP P n ro ⟨some d, .pick x y z, ty, pos, af, gd⟩ f w K :=
  op_pick hd hc rfl hb (by rw [ht]; exact k)
section ints
variable {a b : Int} {t1 t2 : TypeId}
theorem bl_ (hd : Nat.blt d n = true) (hx : ev f x = .int .i64 a) (hy : ev f y = .int .i64 b) (k : K (upd f d (.int .i64 (w64 (a + b)))) w) : OP P n ro ⟨some d, .binOp .add t1 x y t2, ty, pos, af, gd⟩ f w K :=
  dd_ hd (by simp [execOp, hx, hy, eqGuard, binOp, Op.intArith, w64]) k
theorem eb_ (hd : Nat.blt d n = true) (hx : ev f x = .int .i64 a) (hy : ev f y = .int .i64 b) (k : K (upd f d (.int .i64 (w64 (a - b)))) w) : OP P n ro ⟨some d, .binOp .sub t1 x y t2, ty, pos, af, gd⟩ f w K :=
  dd_ hd (by simp [execOp, hx, hy, eqGuard, binOp, Op.intArith, w64]) k
theorem op_mul (hd : Nat.blt d n = true) (hx : ev f x = .int .i64 a) (hy : ev f y = .int .i64 b) (k : K (upd f d (.int .i64 (w64 (a * b)))) w) : OP P n ro ⟨some d, .binOp .mul t1 x y t2, ty, pos, af, gd⟩ f w K :=
  dd_ hd (by simp [execOp, hx, hy, eqGuard, binOp, Op.intArith, w64]) k
theorem op_quo {c : Int} (hd : Nat.blt d n = true) (hx : ev f x = .int .i64 a) (hy : ev f y = .int .i64 b) (hc : dv a b = some c) (k : K (upd f d (.int .i64 c)) w) : OP P n ro ⟨some d, .binOp .quo t1 x y t2, ty, pos, af, gd⟩ f w K := by
  obtain ⟨h0, rfl⟩ := dv_some hc
  exact dd_ hd (by simp [execOp, hx, hy, eqGuard, binOp, Op.intDiv, w64, h0]) k
theorem op_rem {c : Int} (hd : Nat.blt d n = true) (hx : ev f x = .int .i64 a) (hy : ev f y = .int .i64 b) (hc : md a b = some c) (k : K (upd f d (.int .i64 c)) w) : OP P n ro ⟨some d, .binOp .rem t1 x y t2, ty, pos, af, gd⟩ f w K := by
  obtain ⟨h0, rfl⟩ := md_some hc
  exact dd_ hd (by simp [execOp, hx, hy, eqGuard, binOp, Op.intDiv, w64, h0]) k
theorem be_ {ik : IntKind} (hd : Nat.blt d n = true) (hx : ev f x = .int ik a) (hy : ev f y = .int ik b) (k : K (upd f d (.bool (decide (a < b)))) w) : OP P n ro ⟨some d, .binOp .lss t1 x y t2, ty, pos, af, gd⟩ f w K :=
  dd_ hd (by simp [execOp, hx, hy, eqGuard, binOp, Op.intCmp]) k
theorem sw_ {ik : IntKind} (hd : Nat.blt d n = true) (hx : ev f x = .int ik a) (hy : ev f y = .int ik b) (k : K (upd f d (.bool (decide (a ≤ b)))) w) : OP P n ro ⟨some d, .binOp .leq t1 x y t2, ty, pos, af, gd⟩ f w K :=
  dd_ hd (by simp [execOp, hx, hy, eqGuard, binOp, Op.intCmp]) k
theorem lv_ {ik : IntKind} (hd : Nat.blt d n = true) (hx : ev f x = .int ik a) (hy : ev f y = .int ik b) (k : K (upd f d (.bool (decide (b < a)))) w) : OP P n ro ⟨some d, .binOp .gtr t1 x y t2, ty, pos, af, gd⟩ f w K :=
  dd_ hd (by simp [execOp, hx, hy, eqGuard, binOp, Op.intCmp]) k
theorem mx_ {ik : IntKind} (hd : Nat.blt d n = true) (hx : ev f x = .int ik a) (hy : ev f y = .int ik b) (k : K (upd f d (.bool (decide (b ≤ a)))) w) : OP P n ro ⟨some d, .binOp .geq t1 x y t2, ty, pos, af, gd⟩ f w K :=
  dd_ hd (by simp [execOp, hx, hy, eqGuard, binOp, Op.intCmp]) k
theorem bm_ {ik : IntKind} (hd : Nat.blt d n = true) (hx : ev f x = .int ik a) (hy : ev f y = .int ik b) (k : K (upd f d (.bool (a == b))) w) : OP P n ro ⟨some d, .binOp .eql t1 x y t2, ty, pos, af, gd⟩ f w K :=
  dd_ hd (by simp [execOp, hx, hy, eqGuard, binOp, Op.intCmp]) k
theorem cd_ {ik : IntKind} (hd : Nat.blt d n = true) (hx : ev f x = .int ik a) (hy : ev f y = .int ik b) (k : K (upd f d (.bool (a != b))) w) : OP P n ro ⟨some d, .binOp .neq t1 x y t2, ty, pos, af, gd⟩ f w K :=
  dd_ hd (by simp [execOp, hx, hy, eqGuard, binOp, Op.intCmp]) k
theorem op_min {ct : Array TypeId} (hd : Nat.blt d n = true) (hx : ev f x = .int .i64 a) (hy : ev f y = .int .i64 b) (k : K (upd f d (.int .i64 (tm_ a b))) w) :
    OP P n ro ⟨some d, .call ⟨.builtin .min, #[x, y], ct⟩, ty, pos, af, gd⟩ f w K :=
  dd_ hd (by simp [execOp, hx, hy, resolve, invoke, builtin, Builtin.min_, Builtin.min2, tm_]) k
end ints
theorem bx_ {b : Bool} {t1 : TypeId} (hd : Nat.blt d n = true) (hx : ev f x = .bool b) (k : K (upd f d (.bool (!b))) w) : OP P n ro ⟨some d, .unOp .not t1 x, ty, pos, af, gd⟩ f w K :=
  dd_ hd (by simp [execOp, hx, Op.unary]) k
theorem run_beq {a b : Bool} {t1 : TypeId} (ht : P.underlying t1 = some .bool) : (Op.equal t1 (.bool a) (.bool b)).run P w = .ok (a == b) w := by
  show (Op.equalIn (9999 + 1) t1 (.bool a) (.bool b)).run P w = _
  unfold Op.equalIn
  rw [Sem.run_bind, run_underlying ht]
  rfl
theorem op_beql {a b : Bool} {t1 t2 : TypeId} (hd : Nat.blt d n = true) (ht : P.underlying t1 = some .bool) (hx : ev f x = .bool a) (hy : ev f y = .bool b) (k : K (upd f d (.bool (a == b))) w) :
    OP P n ro ⟨some d, .binOp .eql t1 x y t2, ty, pos, af, gd⟩ f w K :=
  dd_ hd (by
    have h := run_beq (P := P) (w := w) (a := a) (b := b) ht
    have e : (execOp (ev f) ⟨some d, .binOp .eql t1 x y t2, ty, pos, af, gd⟩) = (do pure (.value (← (do pure (.bool (← Op.equal t1 (.bool a) (.bool b))) : Sem Value)))) := by
      simp only [execOp, hx, hy]
      rfl
    rw [e]
    simp only [Sem.run_bind, h, Result.andThen_ok, Sem.run_pure]) k
theorem mj_ {a b : Bool} {t1 t2 : TypeId} (hd : Nat.blt d n = true) (ht : P.underlying t1 = some .bool) (hx : ev f x = .bool a) (hy : ev f y = .bool b) (k : K (upd f d (.bool (a != b))) w) :
    OP P n ro ⟨some d, .binOp .neq t1 x y t2, ty, pos, af, gd⟩ f w K :=
  dd_ hd (by
    have h := run_beq (P := P) (w := w) (a := a) (b := b) ht
    have e : (execOp (ev f) ⟨some d, .binOp .neq t1 x y t2, ty, pos, af, gd⟩) = (do pure (.value (← (do pure (.bool (!(← Op.equal t1 (.bool a) (.bool b)))) : Sem Value)))) := by
      simp only [execOp, hx, hy]
      rfl
    rw [e]
    simp only [Sem.run_bind, h, Result.andThen_ok, Sem.run_pure]
    rfl) k
theorem bg_ {vs : Array Value} {i : Nat} (hd : Nat.blt d n = true) (hx : ev f x = .tuple vs) (hi : vs[i]? = some v) (k : K (upd f d v) w) : OP P n ro ⟨some d, .extract x i, ty, pos, af, gd⟩ f w K :=
  dd_ hd (by simp [execOp, hx, Instr.extract, hi]) k
theorem cm_ {fn : Fn} {fi ca : Array Operand} {fv cv : Array Value} (hd : Nat.blt d n = true) (h1 : fi.map (ev f) = fv) (h2 : ca.map (ev f) = cv) (k : K (upd f d (.func fn fv cv)) w) :
    OP P n ro ⟨some d, .makeFunc fn fi ca, ty, pos, af, gd⟩ f w K :=
  dd_ hd (by simp [execOp, Instr.makeFunc, h1, h2]) k
theorem op_len {a : Option Addr} {l c : Nat} {E : TypeId} (hd : Nat.blt d n = true) (hT : P.underlying T = some (.slice E)) (hx : ev f x = .slice a l c) (k : K (upd f d (.int .i64 l)) w) :
    OP P n ro ⟨some d, .call ⟨.builtin .len, #[x], #[T]⟩, ty, pos, af, gd⟩ f w K :=
  dd_ hd (by simp [execOp, hx, resolve, invoke, builtin, Builtin.len_, run_underlying hT, goInt]) k
theorem az_ {α : Type} [Enc α] {S : PH} {l : List α} {E : TypeId} (hd : Nat.blt d n = true) (hT : P.underlying T = some (.slice E)) (hx : ev f x = v) (hr : RV S v l) (k : K (upd f d (.int .i64 l.length)) w) :
    OP P n ro ⟨some d, .call ⟨.builtin .len, #[x], #[T]⟩, ty, pos, af, gd⟩ f w K := by
  obtain ⟨a, cap, rfl, _⟩ := kc_ hr
  exact op_len hd hT hx k
theorem qe_ {a : Addr} (hd : Nat.blt d n = true) (hx : ev f x = v) (hp : v = .pointer (some a)) (k : K (upd f d v) w) : OP P n ro ⟨some d, .nilCheck x, ty, pos, af, gd⟩ f w K := by
  subst hp
  exact dd_ hd (by simp [execOp, hx]) k
def ds_ (P : Program) (T : TypeId) (k off : Nat) : Prop := ∀ w a, (Instr.fieldAt T (.pointer (some a)) k).run P w = .ok (.pointer (some (a.add off))) w
theorem av_ {k off : Nat} {a : Addr} (hd : Nat.blt d n = true) (hF : ds_ P T k off) (hx : ev f x = v) (hp : v = .pointer (some a)) (c : K (upd f d (an_ v off)) w) :
    OP P n ro ⟨some d, .fieldAddr T x k, ty, pos, af, gd⟩ f w K := by
  subst hp
  exact dd_ hd (by simp [execOp, hx, hF w a, an_]) c
theorem PtT.ptr {α : Type} [Enc α] {S : PH} {p : Value} {x : α} (h : PtT w S p x) : ∃ a, p = .pointer (some a) := by
  obtain ⟨a, _, e, _⟩ := h
  exact ⟨a, e⟩
theorem ae_ {α : Type} [Enc α] {S : PH} {s : α} {k off : Nat} (hd : Nat.blt d n = true) (hF : ds_ P T k off) (hx : ev f x = v) (hp : PtT w S v s) (c : K (upd f d (an_ v off)) w) :
    OP P n ro ⟨some d, .fieldAddr T x k, ty, pos, af, gd⟩ f w K := by
  obtain ⟨a, e⟩ := hp.ptr
  exact av_ hd hF hx e c
structure Shape (P : Program) (T : TypeId) (agg : Bool) (sz : Nat) : Prop where
  agg : ∀ w, (isAgg T).run P w = .ok agg w
  size : ∀ w, (sizeOf T).run P w = .ok sz w
theorem sx_ {E : TypeId} {a : Addr} {l c sz : Nat} {i : Int} {agg : Bool} (hd : Nat.blt d n = true) (hT : P.underlying T = some (.slice E)) (hE : Shape P E agg sz)
    (hx : ev f x = .slice (some a) l c) (hi : ev f y = .int .i64 i) (h0 : 0 ≤ i) (hl : i.toNat < l) (k : K (upd f d (.pointer (some (a.add (i.toNat * sz))))) w) :
    OP P n ro ⟨some d, .indexAddr T x y, ty, pos, af, gd⟩ f w K :=
  dd_ hd (by
    have h1 : 0 ≤ i ∧ i < (l : Int) := ⟨h0, by omega⟩
    simp [execOp, hx, hi, Instr.indexAt, asIntOf, run_underlying hT, h1, hE.size w]) k
theorem ut_ {α : Type} [Enc α] {S : PH} {ls : List α} {E : TypeId} {i : Int} {e : α} (hd : Nat.blt d n = true) (hT : P.underlying T = some (.slice E)) (hE : Shape P E (Enc.agg α) (Enc.sz α))
    (hx : ev f x = v) (hr : RV S v ls) (hi : ev f y = .int .i64 i) (he : at? ls i = some e) (k : K (upd f d (af_ v i (Enc.sz α))) w) :
    OP P n ro ⟨some d, .indexAddr T x y, ty, pos, af, gd⟩ f w K := by
  obtain ⟨a, cap, rfl, hl, hm, hn, _⟩ := kc_ hr
  obtain ⟨h0, hlt, _⟩ := df_ he
  cases a with
  | none => rw [(hn rfl).1] at hlt; simp at hlt
  | some ad => exact sx_ hd hT hE hx hi h0 hlt k
theorem run_loadAt {α : Type} [Enc α] {S : PH} {p : Value} {e : α} (hT : Shape P T (Enc.agg α) (Enc.sz α)) (hp : PtT w S p e) :
    ∃ v, (Instr.loadAt T p).run P w = .ok v w ∧ RV S v e := by
  obtain ⟨a, cs, rfl, hr, hc⟩ := hp
  have hl := Enc.len hr
  cases ha : Enc.agg α with
  | true =>
    refine ⟨.agg cs.toArray, ?_, cs, hr, by rw [ha]; rfl⟩
    have h1 := hT.agg w
    rw [ha] at h1
    have h2 := run_loadCells_list (P := P) w a cs hc
    rw [hl] at h2
    simp [Instr.loadAt, Instr.sureAddr, loadVar, h1, hT.size w, h2]
  | false =>
    have h1 := hT.agg w
    rw [ha] at h1
    have hs := Enc.one (α := α) ha
    rw [hs] at hl
    match cs, hl with
    | [c], _ =>
      have hcell := hc 0 c rfl
      have e0 : a.add 0 = a := by simp [Addr.add]
      rw [e0] at hcell
      refine ⟨c, ?_, [c], hr, by rw [ha]; rfl⟩
      simp [Instr.loadAt, Instr.sureAddr, loadVar, h1, load, hcell, Sem.run]
theorem ay_ {α : Type} [Enc α] {S : PH} {e : α} (hd : Nat.blt d n = true) (hT : Shape P T (Enc.agg α) (Enc.sz α)) (hx : ev f x = v) (hp : PtT w S v e) (k : ∀ u, RV S u e → K (upd f d u) w) :
    OP P n ro ⟨some d, .load T x, ty, pos, af, gd⟩ f w K := by
  obtain ⟨u, hu, hr⟩ := run_loadAt hT hp
  exact dd_ hd (by simp [execOp, hx, hu]) (k u hr)
theorem aj_ {S : PH} {e : Int} (hd : Nat.blt d n = true) (hT : Shape P T false 1) (hx : ev f x = v) (hp : PtT w S v e) (k : K (upd f d (.int .i64 e)) w) :
    OP P n ro ⟨some d, .load T x, ty, pos, af, gd⟩ f w K :=
  ay_ hd hT hx hp fun u hu => by rw [rv_int hu]; exact k
theorem sv_ {S : PH} {e : Bool} (hd : Nat.blt d n = true) (hT : Shape P T false 1) (hx : ev f x = v) (hp : PtT w S v e) (k : K (upd f d (.bool e)) w) :
    OP P n ro ⟨some d, .load T x, ty, pos, af, gd⟩ f w K :=
  ay_ hd hT hx hp fun u hu => by rw [rv_bool hu]; exact k
section own
variable {S : PH} {O : List HP} {g i : Nat} {B : TypeId} {cs : Array Value}
theorem bi_ (hd : Nat.blt d n = true) (hI : Inv w S O) (hx : ev f x = v) (k : ∀ g w', Inv w' S (am_ g T v.cells :: O) → K (upd f d (.pointer (some ⟨g, 0, none⟩))) w') :
    OP P n ro ⟨some d, .box T x, ty, pos, af, gd⟩ f w K :=
  dd_ (w' := w.alloc (.cells v.cells T)) hd (by simp [execOp, hx, Instr.box, newVar, newRow]) (k _ _ (hI.alloc T v.cells))
def mg_ (P : Program) (T : TypeId) (z : Value) : Prop := ∀ w, (zeroValue T).run P w = .ok z w
theorem bu_ {z : Value} (hd : Nat.blt d n = true) (hI : Inv w S O) (hz : mg_ P T z) (k : ∀ g w', Inv w' S (am_ g T z.cells :: O) → K (upd f d (.pointer (some ⟨g, 0, none⟩))) w') :
    OP P n ro ⟨some d, .alloc T, ty, pos, af, gd⟩ f w K :=
  dd_ (w' := w.alloc (.cells z.cells T)) hd (by simp [execOp, Instr.alloc, hz w, newVar, newRow]) (k _ _ (hI.alloc T z.cells))
theorem hv_ (g i j : Nat) : (⟨g, i, none⟩ : Addr).add j = ⟨g, i + j, none⟩ := by unfold Addr.add; split <;> simp_all
theorem bd_ {c : Value} (hd : Nat.blt d n = true) (hT : Shape P T false 1) (hI : Inv w S (am_ g B cs :: O)) (hx : ev f x = .pointer (some ⟨g, i, none⟩)) (hc : cs[i]? = some c) (k : K (upd f d c) w) :
    OP P n ro ⟨some d, .load T x, ty, pos, af, gd⟩ f w K :=
  dd_ hd (by simp [execOp, hx, Instr.loadAt, Instr.sureAddr, loadVar, hT.agg w, load, Sem.run, hI.cell, hc]) k
theorem el_ {sz : Nat} {l : List Value} (hd : Nat.blt d n = true) (hT : Shape P T true sz) (hI : Inv w S (am_ g B cs :: O)) (hx : ev f x = .pointer (some ⟨g, i, none⟩))
    (hl : (cs.toList.drop i).take sz = l) (hs : l.length = sz) (k : K (upd f d (.agg l.toArray)) w) :
    OP P n ro ⟨some d, .load T x, ty, pos, af, gd⟩ f w K := by
  have h2 := run_loadCells_list (P := P) w ⟨g, i, none⟩ l (fun j u hu => by
    rw [hv_, hI.cell]
    rw [← hl, List.getElem?_take] at hu
    split at hu
    · rw [List.getElem?_drop] at hu
      simpa using hu
    · cases hu)
  rw [hs] at h2
  exact dd_ hd (by simp [execOp, hx, Instr.loadAt, Instr.sureAddr, loadVar, hT.agg w, hT.size w, h2]) k
def jo_ (cs : Array Value) : Nat → List Value → Array Value
  | _, [] => cs
  | i, v :: vs => jo_ (cs.setIfInBounds i v) (i + 1) vs
theorem uq_ (vs : List Value) : ∀ (cs : Array Value) (i : Nat), i + vs.length ≤ cs.size → (cs.toList.take i ++ vs ++ cs.toList.drop (i + vs.length)).toArray = jo_ cs i vs := by
  induction vs with
  | nil => intro cs i _; simp [jo_]
  | cons v vs ih =>
    intro cs i h
    simp only [List.length_cons] at h
    unfold jo_
    rw [← ih (cs.setIfInBounds i v) (i + 1) (by simp; omega)]
    have e := list_seg_step cs.toList i v vs (by simp; omega)
    apply congrArg
    simpa [Array.toList_setIfInBounds] using e.symm
theorem zt_ {sz : Nat} (hT : ∀ w, (sizeOf T).run P w = .ok sz w) (hI : Inv w S (am_ g B cs :: O)) (hs : v.cells.size = sz) (hb : i + sz ≤ cs.size) (h1 : ∀ u ∈ v.cells.toList, u.oneCell' = true) :
    ∃ w', (Instr.storeAt T (.pointer (some ⟨g, i, none⟩)) v).run P w = .ok () w' ∧ Inv w' S (am_ g B (jo_ cs i v.cells.toList) :: O) := by
  have hst := run_storeCells_at P g i B v.cells.toList 0 cs w hI.blk (by simp; omega) h1
  simp only [Nat.add_zero] at hst
  rw [uq_ v.cells.toList cs i (by simp; omega)] at hst
  refine ⟨_, by simp [Instr.storeAt, Instr.sureAddr, storeVar, hT w, hs, hst]; rfl, ?_⟩
  exact hI.setRow
theorem bb_ {sz : Nat} {agg : Bool} (hT : Shape P T agg sz) (hI : Inv w S (am_ g B cs :: O)) (hx : ev f x = .pointer (some ⟨g, i, none⟩)) (hy : ev f y = v)
    (hs : v.cells.size = sz) (hb : i + sz ≤ cs.size) (h1 : v.cells.toList.all (·.oneCell') = true) (k : ∀ w', Inv w' S (am_ g B (jo_ cs i v.cells.toList) :: O) → K f w') :
    OP P n ro ⟨none, .store T x y, ty, pos, af, gd⟩ f w K := by
  obtain ⟨w', h, hI'⟩ := zt_ hT.size hI hs hb (fun u hu => List.all_eq_true.1 h1 u hu)
  exact zv_ (by simp [execOp, hx, hy, h]) (k w' hI')
end own
end
end Go.Proofs.YtlpdpeghgndmkaaGreat.Pad
end

section
namespace Go.Proofs.YtlpdpeghgndmkaaGreat.Pad
open Go
variable {ro : Option Nat}
section repl
variable {α : Type} [Enc α]
def RepL (S : PH) : List Value → List α → Prop
  | cs, [] => cs = []
  | cs, x :: l => ∃ es rest, cs = es ++ rest ∧ Enc.rep S es x ∧ RepL S rest l
variable {S T : PH}
theorem RepL.len : ∀ {l : List α} {cs : List Value}, RepL S cs l → cs.length = l.length * Enc.sz α
  | [], cs, h => by have h : cs = [] := h; simp [h]
  | x :: l, cs, ⟨es, rest, e, h1, h2⟩ => by
    have := RepL.len h2
    rw [e, List.length_append, Enc.len h1, this, List.length_cons, Nat.add_mul]
    omega
theorem RepL.mono (hle : S.Le T) : ∀ {l : List α} {cs : List Value}, RepL S cs l → RepL T cs l
  | [], _, h => h
  | _ :: _, _, ⟨es, rest, e, h1, h2⟩ => ⟨es, rest, e, Enc.mono hle h1, RepL.mono hle h2⟩
theorem RepL.append : ∀ {l m : List α} {cs ds : List Value}, RepL S cs l → RepL S ds m → RepL S (cs ++ ds) (l ++ m)
  | [], m, cs, ds, h, k => by have h : cs = [] := h; subst h; exact k
  | x :: l, m, cs, ds, ⟨es, rest, e, h1, h2⟩, k => ⟨es, rest ++ ds, by rw [e, List.append_assoc], h1, RepL.append h2 k⟩
theorem RepL.one {cs : List Value} {x : α} (h : Enc.rep S cs x) : RepL S cs [x] := ⟨cs, [], by simp, h, rfl⟩
theorem RepL.cell1 : ∀ {l : List α} {cs : List Value}, RepL S cs l → ∀ v ∈ cs, v.oneCell' = true
  | [], cs, h, v, hv => by have h : cs = [] := h; subst h; simp at hv
  | x :: l, cs, ⟨es, rest, e, h1, h2⟩, v, hv => by
    rw [e] at hv
    rcases List.mem_append.1 hv with h | h
    · exact Enc.cell1 h1 v h
    · exact RepL.cell1 h2 v h
theorem RepL.cut : ∀ {l : List α} {cs : List Value} {i : Nat} {x : α}, RepL S cs l → l[i]? = some x →
    ∃ A es B, cs = A ++ (es ++ B) ∧ A.length = i * Enc.sz α ∧ Enc.rep S es x ∧ ∀ es' x', Enc.rep S es' x' → RepL S (A ++ (es' ++ B)) (l.set i x')
  | [], _, _, _, _, h => by simp at h
  | y :: l, cs, 0, x, ⟨es, rest, e, h1, h2⟩, h => by
    simp at h
    subst h
    exact ⟨[], es, rest, e, by simp, h1, fun es' x' h' => ⟨es', rest, rfl, h', h2⟩⟩
  | y :: l, cs, i + 1, x, ⟨es, rest, e, h1, h2⟩, h => by
    simp at h
    obtain ⟨A, es0, B, e0, hA, hr, hset⟩ := RepL.cut h2 h
    refine ⟨es ++ A, es0, B, by rw [e, e0, List.append_assoc], by rw [List.length_append, Enc.len h1, hA, Nat.add_mul]; omega, hr, fun es' x' h' => ?_⟩
    exact ⟨es, A ++ (es' ++ B), by rw [List.append_assoc], h1, hset es' x' h'⟩
theorem RepL.split : ∀ {l : List α} {cs : List Value} (k : Nat), k ≤ l.length → RepL S cs l → ∃ a b, cs = a ++ b ∧ RepL S a (l.take k) ∧ RepL S b (l.drop k)
  | l, cs, 0, _, h => ⟨[], cs, rfl, rfl, h⟩
  | [], cs, k + 1, hk, h => by simp at hk
  | x :: l, cs, k + 1, hk, ⟨es, rest, e, h1, h2⟩ => by
    obtain ⟨a, b, e', ha, hb⟩ := RepL.split k (by simpa using hk) h2
    exact ⟨es ++ a, b, by rw [e, e', List.append_assoc], ⟨es, a, rfl, h1, ha⟩, hb⟩
theorem RepL.rowAt {cell : Addr → Option Value} {ad : Addr} {l : List α} {cs : List Value} (h : RepL S cs l) (hc : ∀ j u, cs[j]? = some u → cell (ad.add j) = some u) : RowAt cell S ad l := by
  intro i x hx
  obtain ⟨A, es, B, e, hA, hr, _⟩ := h.cut hx
  refine ⟨es, hr, fun j u hu => hc _ _ ?_⟩
  rw [e, ← hA, List.getElem?_append_right (by omega), Nat.add_sub_cancel_left, List.getElem?_append_left (List.getElem?_eq_some_iff.1 hu).1]
  exact hu
theorem RowAt.repL {cell : Addr → Option Value} : ∀ {l : List α} {ad : Addr}, RowAt cell S ad l → ∃ cs, RepL S cs l ∧ ∀ j u, cs[j]? = some u → cell (ad.add j) = some u
  | [], _, _ => ⟨[], rfl, by simp⟩
  | x :: l, ad, h => by
    obtain ⟨es, h1, h2⟩ := h 0 x rfl
    have hr : RowAt cell S (ad.add (Enc.sz α)) l := by
      intro i y hy
      obtain ⟨es', h1', h2'⟩ := h (i + 1) y (by simpa using hy)
      refine ⟨es', h1', fun j u hu => ?_⟩
      rw [ik_]
      have := h2' j u hu
      rw [Nat.add_mul] at this
      rw [← this]
      congr 2
      omega
    obtain ⟨cs, h3, h4⟩ := RowAt.repL hr
    refine ⟨es ++ cs, ⟨es, cs, rfl, h1, h3⟩, fun j u hu => ?_⟩
    have hl := Enc.len h1
    by_cases hj : j < es.length
    · rw [List.getElem?_append_left hj] at hu
      have := h2 j u hu
      simpa using this
    · rw [List.getElem?_append_right (by omega)] at hu
      have := h4 _ u hu
      rw [ik_, hl] at this
      rw [← this]
      congr 2
      omega
end repl
def RowP {α : Type} [Enc α] (T : TypeId) (v : Value) (l : List α) (S : PH) (h : Hp) : Prop :=
  (v = .slice none 0 0 ∧ l = [] ∧ h = Hp.emp) ∨
  ∃ (g cap : Nat) (pre ls post : List Value), v = .slice (some ⟨g, pre.length, none⟩) l.length cap ∧ h = Hp.one g (.cells (pre ++ (ls ++ post)).toArray T (0, 0)) ∧
    RepL S ls l ∧ l.length ≤ cap ∧ cap ≤ maxLen ∧ cap * Enc.sz α ≤ l.length * Enc.sz α + post.length
def Row {α : Type} [Enc α] (T : TypeId) (v : Value) (l : List α) : HP where
  p := RowP T v l
  mono hle h := by
    rcases h with h | ⟨g, cap, pre, ls, post, h1, h2, h3, h4⟩
    · exact .inl h
    · exact .inr ⟨g, cap, pre, ls, post, h1, h2, h3.mono hle, h4⟩
def Src {α : Type} [Enc α] (w : World) (S : PH) (u : Value) (ys : List α) : Prop :=
  ∃ a cap, u = .slice a ys.length cap ∧ (a = none → ys = []) ∧ ∀ ad, a = some ad → RowAt w.cell? S ad ys
section
variable {α : Type} [Enc α] {w : World} {S : PH} {O : List HP} {T : TypeId} {v : Value} {l : List α}
theorem RV.src {u : Value} {ys : List α} (h : RV S u ys) (hin : S.m.In w) : Src w S u ys := by
  obtain ⟨a, cap, rfl, hl, hm, hn, hr⟩ := kc_ h
  exact ⟨a, cap, rfl, fun e => (hn e).1, fun ad e i x hx => by
    obtain ⟨es, h1, h2⟩ := hr ad e i x hx
    exact ⟨es, h1, fun j u hu => PH.cell_in hin (h2 j u hu)⟩⟩
theorem cell_row {g : Nat} {pre ls post : List Value} (hb : w.heap[g]? = some (.cells (pre ++ (ls ++ post)).toArray T (0, 0))) :
    ∀ j u, ls[j]? = some u → w.cell? ((⟨g, pre.length, none⟩ : Addr).add j) = some u := by
  intro j u hu
  rw [hv_, cell_of_row w g _ _ T (0, 0) hb]
  simp only [List.getElem?_toArray]
  rw [List.getElem?_append_right (by omega), Nat.add_sub_cancel_left, List.getElem?_append_left (List.getElem?_eq_some_iff.1 hu).1]
  exact hu
theorem Inv.rowSrc (h : Inv w S (Row T v l :: O)) : Src w S v l := by
  obtain ⟨k, hk, hI⟩ := h.open_
  rcases hk with ⟨rfl, rfl, rfl⟩ | ⟨g, cap, pre, ls, post, rfl, rfl, h3, h4, h5, h6⟩
  · exact ⟨none, 0, rfl, fun _ => rfl, fun _ e => by cases e⟩
  · refine ⟨some ⟨g, pre.length, none⟩, cap, rfl, (fun e => by cases e), fun ad e => ?_⟩
    cases e
    have hb := hI.front g _ (by simp [Hp.one]; rfl)
    exact h3.rowAt (cell_row hb)
theorem Inv.rowForm (h : Inv w S (Row T v l :: O)) : ∃ a cap, v = .slice a l.length cap ∧ l.length ≤ cap ∧ cap ≤ maxLen := by
  obtain ⟨k, hk, hI⟩ := h.open_
  rcases hk with ⟨rfl, rfl, rfl⟩ | ⟨g, cap, pre, ls, post, rfl, rfl, h3, h4, h5, h6⟩
  · exact ⟨none, 0, rfl, Nat.le_refl _, by simp [maxLen]⟩
  · exact ⟨_, cap, rfl, h4, h5⟩
theorem Src.elem {u : Value} {ys : List α} (h : Src w S u ys) {i : Int} {x : α} (hx : at? ys i = some x) : PtT w S (af_ u i (Enc.sz α)) x := by
  obtain ⟨a, cap, rfl, hn, hr⟩ := h
  obtain ⟨h0, hlt, hx⟩ := df_ hx
  cases a with
  | none => rw [hn rfl] at hlt; simp at hlt
  | some ad =>
    obtain ⟨es, h1, h2⟩ := hr ad rfl _ _ hx
    exact ⟨_, es, rfl, h1, fun j u hu => by rw [ik_]; exact h2 j u hu⟩
theorem Inv.rowElem (h : Inv w S (Row T v l :: O)) {i : Int} {x : α} (hx : at? l i = some x) : PtT w S (af_ v i (Enc.sz α)) x := h.rowSrc.elem hx
theorem Inv.rowNil (h : Inv w S O) : Inv w S (Row T (.slice none 0 0) ([] : List α) :: O) :=
  ⟨h.os, h.out, Hp.emp, .inl ⟨rfl, rfl, rfl⟩, fun _ => .inl rfl, by
    have : Hp.un Hp.emp S.m = S.m := by funext b; simp [Hp.un, Hp.emp]
    rw [this]
    exact h.own⟩
theorem RowP.rv {U : PH} {k : Hp} (h : RowP T v l S k) (hle : S.Le U) (hk : k.Le U.m) : RV U v l := by
  rcases h with ⟨rfl, rfl, rfl⟩ | ⟨g, cap, pre, ls, post, rfl, rfl, h3, h4, h5, h6⟩
  · exact rv_nil
  · refine qx_ ⟨h4, h5, (fun e => by cases e), fun ad e => ?_⟩
    cases e
    have hb := hk g _ (by simp [Hp.one]; rfl)
    refine (h3.mono hle).rowAt fun j u hu => ?_
    rw [hv_]
    simp only [PH.cell, hb]
    simp only [List.getElem?_toArray, Option.isSome_none, Bool.false_eq_true, if_false]
    rw [List.getElem?_append_right (by omega), Nat.add_sub_cancel_left, List.getElem?_append_left (List.getElem?_eq_some_iff.1 hu).1]
    exact hu
theorem Inv.rowFreeze (h : Inv w S (Row T v l :: O)) : ∃ U, S.Le U ∧ Inv w U O ∧ RV U v l := by
  obtain ⟨U, k, h1, h2, h3, h4⟩ := h.freeze
  exact ⟨U, h1, h2, RowP.rv h3 h1 h4⟩
theorem Inv.cellsFreeze {β : Type} [Enc β] {g : Nat} {cs : Array Value} {x : β} (h : Inv w S (am_ g T cs :: O)) (hx : Enc.rep S cs.toList x) :
    ∃ U, S.Le U ∧ Inv w U O ∧ Enc.rep U cs.toList x ∧ ∀ j u, cs.toList[j]? = some u → U.cell ((⟨g, 0, none⟩ : Addr).add j) = some u := by
  obtain ⟨U, k, h1, h2, h3, h4⟩ := h.freeze
  refine ⟨U, h1, h2, Enc.mono h1 hx, fun j u hu => ?_⟩
  have h3 : k = Hp.one g (.cells cs T (0, 0)) := h3
  have hb := h4 g (.cells cs T (0, 0)) (by rw [h3]; simp [Hp.one])
  rw [hv_]
  simp only [PH.cell, hb]
  simpa using hu
def PtS {β : Type} [Enc β] (S : PH) (p : Value) (x : β) : Prop := ∃ a cs, p = .pointer (some a) ∧ Enc.rep S cs x ∧ ∀ j u, cs[j]? = some u → S.cell (a.add j) = some u
theorem PtS.mono {β : Type} [Enc β] {U : PH} {p : Value} {x : β} (h : PtS S p x) (hle : S.Le U) : PtS U p x := by
  obtain ⟨a, cs, e, h1, h2⟩ := h
  exact ⟨a, cs, e, Enc.mono hle h1, fun j u hu => PH.cell_le hle (h2 j u hu)⟩
theorem PtS.at_ {β : Type} [Enc β] {p : Value} {x : β} (h : PtS S p x) (hI : Inv w S O) : PtT w S p x := by
  obtain ⟨a, cs, e, h1, h2⟩ := h
  exact ⟨a, cs, e, h1, fun j u hu => PH.cell_in hI.in_ (h2 j u hu)⟩
theorem Inv.boxFreeze {β : Type} [Enc β] {g : Nat} {u : Value} {x : β} (h : Inv w S (am_ g T u.cells :: O)) (hx : RV S u x) :
    ∃ U, S.Le U ∧ Inv w U O ∧ PtS U (.pointer (some ⟨g, 0, none⟩)) x := by
  obtain ⟨U, h1, h2, h3, h4⟩ := h.cellsFreeze hx.cells
  exact ⟨U, h1, h2, _, _, rfl, h3, h4⟩
end
section ops
variable {P : Program} {n : Nat} {f : Fr} {w : World} {K : Fr → World → Prop} {d : Nat} {ty : TypeId} {pos : String} {af : Array Edge} {gd : Option (Nat × Bool)} {x y z : Operand} {v u : Value} {T E : TypeId}
  {α : Type} [Enc α] {S : PH} {O : List HP} {l : List α} {e : α}
theorem di_ (hd : Nat.blt d n = true) (hT : P.underlying T = some (.slice E)) (hx : ev f x = v) (hI : Inv w S (Row E v l :: O)) (k : K (upd f d (.int .i64 l.length)) w) :
    OP P n ro ⟨some d, .call ⟨.builtin .len, #[x], #[T]⟩, ty, pos, af, gd⟩ f w K := by
  obtain ⟨a, cap, rfl, _⟩ := hI.rowForm
  exact op_len hd hT hx k
theorem ba_ {i : Int} (hd : Nat.blt d n = true) (hT : P.underlying T = some (.slice E)) (hE : Shape P E (Enc.agg α) (Enc.sz α))
    (hx : ev f x = v) (hr : Src w S v l) (hi : ev f y = .int .i64 i) (he : at? l i = some e) (k : K (upd f d (af_ v i (Enc.sz α))) w) :
    OP P n ro ⟨some d, .indexAddr T x y, ty, pos, af, gd⟩ f w K := by
  obtain ⟨a, cap, rfl, hn, _⟩ := hr
  obtain ⟨h0, hlt, _⟩ := df_ he
  cases a with
  | none => rw [hn rfl] at hlt; simp at hlt
  | some ad => exact sx_ hd hT hE hx hi h0 hlt k
theorem setRow_Inv {g : Nat} {T : TypeId} {cs cs' : Array Value} (h : Inv w S (HP.exact (Hp.one g (.cells cs T (0, 0))) :: O)) : Inv (w.setRow g cs') S (HP.exact (Hp.one g (.cells cs' T (0, 0))) :: O) :=
  Inv.setRow (T := T) (cs := cs) (cs' := cs') h
theorem list_put {α : Type} (A B C X : List α) (h : B.length = X.length) : (A ++ (B ++ C)).take A.length ++ X ++ (A ++ (B ++ C)).drop (A.length + X.length) = A ++ (X ++ C) := by
  rw [List.take_left, List.append_assoc]
  congr 2
  rw [← List.append_assoc, List.drop_append_of_le_length (by simp; omega)]
  rw [← h, ← List.length_append, List.drop_length]
  rfl
theorem gc_ {g : Nat} {A B C X : List Value} (hI : Inv w S (HP.exact (Hp.one g (.cells (A ++ (B ++ C)).toArray E (0, 0))) :: O)) (hl : B.length = X.length) (h1 : ∀ u ∈ X, u.oneCell' = true) :
    ∃ w', (storeCells ⟨g, A.length, none⟩ X).run P w = .ok () w' ∧ Inv w' S (HP.exact (Hp.one g (.cells (A ++ (X ++ C)).toArray E (0, 0))) :: O) := by
  have hb := hI.front g _ (by simp [Hp.one]; rfl)
  have hst := run_storeCells_at P g A.length E X 0 _ w hb (by simp; omega) h1
  simp only [Nat.add_zero, list_put A B C X hl] at hst
  exact ⟨_, hst, setRow_Inv hI⟩
theorem vy_ {i : Int} {sz off : Nat} {agg : Bool} {e e' : α} {A B C : List Value} (hT : Shape P T agg sz) (hI : Inv w S (Row E v l :: O)) (hx : ev f x = an_ (af_ v i (Enc.sz α)) off) (hy : ev f y = u)
    (he : at? l i = some e)
    (hpart : ∀ cs, Enc.rep S cs e → ∃ A B C, cs = A ++ (B ++ C) ∧ A.length = off ∧ B.length = u.cells.toList.length ∧ Enc.rep S (A ++ (u.cells.toList ++ C)) e')
    (hs : u.cells.size = sz) (k : ∀ w', Inv w' S (Row E v (l.set i.toNat e') :: O) → K f w') :
    OP P n ro ⟨none, .store T x y, ty, pos, af, gd⟩ f w K := by
  obtain ⟨h, hk, hI'⟩ := hI.open_
  obtain ⟨h0, hlt, hx'⟩ := df_ he
  rcases hk with ⟨rfl, rfl, rfl⟩ | ⟨g, cap, pre, ls, post, rfl, rfl, h3, h4, h5, h6⟩
  · simp at hlt
  · obtain ⟨A0, es, B0, e0, hA0, hr, hset⟩ := h3.cut hx'
    obtain ⟨A1, B1, C1, e1, hA1, hB1, hr'⟩ := hpart es hr
    have hc : ∀ q ∈ u.cells.toList, q.oneCell' = true := fun q hq => Enc.cell1 hr' q (by simp at hq ⊢; exact .inr (.inl hq))
    have eq1 : pre ++ (ls ++ post) = (pre ++ (A0 ++ A1)) ++ (B1 ++ (C1 ++ (B0 ++ post))) := by
      rw [e0, e1]; simp [List.append_assoc]
    rw [eq1] at hI'
    obtain ⟨w', hst, hI''⟩ := gc_ (P := P) hI' hB1 hc
    have hp : ev f x = .pointer (some ⟨g, (pre ++ (A0 ++ A1)).length, none⟩) := by
      rw [hx]
      simp only [af_, an_, hv_]
      congr 3
      simp [hA0, hA1]
      omega
    refine zv_ (w' := w') ?_ ?_
    · simp [execOp, hp, hy, Instr.storeAt, Instr.sureAddr, storeVar, hT.size w, hs]
      have := hst
      simp at this
      rw [this]
      rfl
    · refine k w' (hI''.shut ?_)
      refine .inr ⟨g, cap, pre, A0 ++ ((A1 ++ (u.cells.toList ++ C1)) ++ B0), post, by simp, ?_, hset _ _ hr', by simpa using h4, h5, by simpa using h6⟩
      simp [List.append_assoc]
theorem dh_ {i : Int} {e e' : α} (hT : Shape P T (Enc.agg α) (Enc.sz α)) (hI : Inv w S (Row E v l :: O)) (hx : ev f x = af_ v i (Enc.sz α)) (hy : ev f y = u)
    (he : at? l i = some e) (hu : RV S u e') (k : ∀ w', Inv w' S (Row E v (l.set i.toNat e') :: O) → K f w') :
    OP P n ro ⟨none, .store T x y, ty, pos, af, gd⟩ f w K := by
  have hc := hu.cells
  have hl := Enc.len hc
  refine vy_ (A := []) (B := []) (C := []) (off := 0) hT hI ?_ hy he (fun cs hcs => ⟨[], cs, [], by simp, rfl, by rw [Enc.len hcs, hl], by simpa using hc⟩) (by rw [← Array.length_toList]; exact hl) k
  rw [hx]
  obtain ⟨h0, hlt, _⟩ := df_ he
  cases v with
  | slice a q c => cases a <;> simp [af_, an_, Addr.add]
  | pointer a => cases a <;> simp [af_, an_, Addr.add]
  | _ => rfl
theorem RepL.replicate {S : PH} {zc : List Value} {z : α} (h : Enc.rep S zc z) : ∀ k, RepL S (List.replicate k zc).flatten (List.replicate k z)
  | 0 => rfl
  | k + 1 => by
    rw [List.replicate_succ, List.replicate_succ, List.flatten_cons]
    exact ⟨zc, _, rfl, h, RepL.replicate h k⟩
theorem sz_ (z : Array Value) (k : Nat) : (madeCells z (k * z.size)).toList = (List.replicate k z.toList).flatten := by
  induction k with
  | zero => simp [madeCells]
  | succ k ih =>
    have e : (madeCells z ((k + 1) * z.size)).toList = (madeCells z (k * z.size)).toList ++ z.toList := by
      apply List.ext_getElem?
      intro j
      have hz : (k + 1) * z.size = k * z.size + z.size := by rw [Nat.add_mul]; omega
      by_cases hj : j < k * z.size
      · rw [List.getElem?_append_left (by simpa [madeCells] using hj)]
        simp [madeCells, hz, hj, Nat.lt_of_lt_of_le hj (Nat.le_add_right _ _)]
      · by_cases hj2 : j < k * z.size + z.size
        · rw [List.getElem?_append_right (by simp [madeCells]; omega)]
          have h3 : j - k * z.size < z.size := by omega
          have h4 : j % z.size = j - k * z.size := by
            have : j = (j - k * z.size) + z.size * k := by rw [Nat.mul_comm z.size k]; omega
            rw [this, Nat.add_mul_mod_self_left, Nat.mod_eq_of_lt h3]
            rw [Nat.mul_comm z.size k]; omega
          simp [madeCells, hz, hj2, h4, h3]
        · rw [List.getElem?_eq_none (by simp [madeCells, hz]; omega), List.getElem?_eq_none (by simp [madeCells]; omega)]
    rw [e, ih, List.replicate_succ', List.flatten_append]
    simp
structure ElemI (P : Program) (α : Type) [Enc α] (E : TypeId) (bytes : Nat) (z : Value) (zero : α) (i : TypeInfo) : Prop where
  hi : P.info? E = some i
  hz : i.zero = some z
  hs : i.size = Enc.sz α
  hb : i.bytes = bytes
  hzs : z.cells.size = Enc.sz α
  rep : ∀ S, Enc.rep S z.cells.toList zero
def Elem (P : Program) (α : Type) [Enc α] (E : TypeId) (bytes : Nat) (z : Value) (zero : α) : Prop := ∃ i, ElemI P α E bytes z zero i
def mk? {α : Type} (k : Int) (z : α) : Option (List α) := if 0 ≤ k ∧ k ≤ 2147483648 then some (List.replicate k.toNat z) else none
def push? {α : Type} (l m : List α) : Option (List α) := if l.length + m.length ≤ 2147483648 then some (l ++ m) else none
theorem mk?_some {α : Type} {k : Int} {z : α} {l : List α} (h : mk? k z = some l) : 0 ≤ k ∧ k ≤ 2147483648 ∧ l = List.replicate k.toNat z := by
  unfold mk? at h
  split at h
  · exact ⟨‹0 ≤ k ∧ _›.1, ‹0 ≤ k ∧ _›.2, (Option.some.inj h).symm⟩
  · cases h
theorem kl_ {α : Type} {l m r : List α} (h : push? l m = some r) : l.length + m.length ≤ 2147483648 ∧ r = l ++ m := by
  unfold push? at h
  split at h
  · exact ⟨‹_›, (Option.some.inj h).symm⟩
  · cases h
theorem gn_ {bytes : Nat} {zv : Value} {zd : α} {c : Int} {r : List α} (hd : Nat.blt d n = true) (hT : P.underlying T = some (.slice E)) (hE0 : Elem P α E bytes zv zd) (hby : bytes ≤ 65536)
    (hx : ev f x = .int .i64 c) (hy : ev f y = .int .i64 c) (hI : Inv w S O) (hr : mk? c zd = some r) (k : ∀ u w', Inv w' S (Row E u r :: O) → K (upd f d u) w') :
    OP P n ro ⟨some d, .makeSlice T x y, ty, pos, af, gd⟩ f w K := by
  obtain ⟨h0, hl, rfl⟩ := mk?_some hr
  obtain ⟨ei, hE⟩ := hE0
  have hbb : (ei.bytes : Int) * c ≤ 281474976710656 := by
    have h1 : (ei.bytes : Int) ≤ 65536 := by rw [hE.hb]; omega
    have h2 : (ei.bytes : Int) * c ≤ 65536 * 2147483648 := Int.mul_le_mul h1 hl h0 (by omega)
    omega
  have hm := run_make (P := P) w T E ei zv hT hE.hi hE.hz .i64 .i64 c c h0 (Int.le_refl _) hbb (by omega)
  refine dd_ hd (v := .slice (some ⟨w.heap.size, 0, none⟩) c.toNat c.toNat) (w' := w.alloc (.cells (madeCells zv.cells (c.toNat * ei.size)) E)) (by simp [execOp, hx, hy, hm]) (k _ _ ?_)
  refine (hI.new _).shut (A := Row E _ _) ?_
  refine .inr ⟨w.heap.size, c.toNat, [], (List.replicate c.toNat zv.cells.toList).flatten, [], by simp, ?_, RepL.replicate (hE.rep S) _, by simp, by simp only [maxLen]; omega, by simp⟩
  rw [hE.hs, ← hE.hzs]
  congr 1
  rw [← sz_]
  simp
theorem zf_ (off : Nat) : ∀ (l : List Value) (k : Nat) (cs : Array Value), (l.zipIdx k).foldl (fun cs (c, j) => cs.setIfInBounds (off + j) c) cs = jo_ cs (off + k) l
  | [], _, _ => rfl
  | c :: l, k, cs => by
    rw [List.zipIdx_cons, List.foldl_cons, zf_ off l (k + 1)]
    rfl
def fillC (place : Nat → Option (Nat × Nat)) (cells : Array Value) : List (Nat × Array Value) → Option (Array Value)
  | [] => some cells
  | (i, cs) :: rest =>
    match place i with
    | none => none
    | some (off, size) => if cs.size ≠ size || off + cs.size > cells.size then none else fillC place (jo_ cells off cs.toList) rest
theorem fill_eq (place : Nat → Option (Nat × Nat)) : ∀ (ps : List (Nat × Value)) (cells : Array Value), Instr.fill place cells ps = fillC place cells (ps.map fun p => (p.1, p.2.cells))
  | [], _ => rfl
  | (i, v) :: ps, cells => by
    unfold Instr.fill
    simp only [List.map_cons]
    unfold fillC
    cases place i with
    | none => rfl
    | some q =>
      obtain ⟨off, size⟩ := q
      simp only
      split
      · rfl
      · rw [fill_eq place ps]
        congr 1
        have := zf_ off v.cells.toList 0 cells
        rw [Nat.add_zero] at this
        rw [← this, ← Array.foldl_toList, Array.toList_zipIdx]
def Parts (f : Fr) : List (Nat × Operand) → List (Nat × Array Value) → Prop
  | [], [] => True
  | (i, x) :: ps, (j, cs) :: qs => i = j ∧ (ev f x).cells = cs ∧ Parts f ps qs
  | _, _ => False
theorem Parts.eq {f : Fr} : ∀ {ps : List (Nat × Operand)} {qs : List (Nat × Array Value)}, Parts f ps qs → (ps.map fun p => (p.1, (ev f p.2).cells)) = qs
  | [], [], _ => rfl
  | (i, x) :: ps, (j, cs) :: qs, ⟨h1, h2, h3⟩ => by
    rw [List.map_cons, Parts.eq h3, h1, h2]
  | [], _ :: _, h => h.elim
  | _ :: _, [], h => h.elim
structure StructF (P : Program) (T : TypeId) (zero : Array Value) (places : Array (Nat × Nat)) (fs : Array Field) : Prop where
  z : ∀ w, (do pure (← zeroValue T).cells : Sem (Array Value)).run P w = .ok zero w
  u : P.underlying T = some (.struct fs)
  p : ∀ w, (fs.mapM fun f => do pure (f.offset, ← sizeOf f.type) : Sem (Array (Nat × Nat))).run P w = .ok places w
def StructT (P : Program) (T : TypeId) (zero : Array Value) (places : Array (Nat × Nat)) : Prop := ∃ fs, StructF P T zero places fs
theorem StructT.run {P : Program} {T : TypeId} {zero : Array Value} {places : Array (Nat × Nat)} (h : StructT P T zero places) (w : World) (parts : Array (Nat × Value)) {c : Array Value}
    (hc : Instr.fill (places[·]?) zero parts.toList = some c) : (Instr.build T parts).run P w = .ok (.agg c) w := by
  obtain ⟨fs, h⟩ := h
  unfold Instr.build
  have hz := h.z w
  simp only [Sem.run_bind, Sem.run_pure] at hz
  simp only [Sem.run_bind]
  cases hq : (zeroValue T).run P w with
  | halt x w' => rw [hq] at hz; cases hz
  | ok v w' =>
    rw [hq] at hz
    simp only [Result.andThen_ok] at hz ⊢
    obtain ⟨rfl, rfl⟩ : v.cells = zero ∧ w' = w := by injection hz with a b; exact ⟨a, b⟩
    rw [run_underlying h.u]
    simp only [Result.andThen_ok, Sem.run_bind, h.p, hc, Sem.run_pure]
theorem hl_ {ps : List (Nat × Operand)} {qs : List (Nat × Array Value)} {zero c : Array Value} {places : Array (Nat × Nat)} (hd : Nat.blt d n = true) (hT : StructT P T zero places) (hp : Parts f ps qs)
    (hc : fillC (places[·]?) zero qs = some c) (k : K (upd f d (.agg c)) w) : OP P n ro ⟨some d, .build T ps.toArray, ty, pos, af, gd⟩ f w K := by
  refine dd_ hd (w' := w) ?_ k
  have h := hT.run w (ps.toArray.map fun p => (p.1, ev f p.2)) (c := c) (by
    rw [fill_eq]
    simp only [List.map_toArray, List.map_map]
    have e : (List.map ((fun p : Nat × Value => (p.1, p.2.cells)) ∘ fun p : Nat × Operand => (p.1, ev f p.2)) ps) = qs := hp.eq
    rw [e, hc])
  have h2 : (Instr.build T (ps.toArray.map fun (i, x) => (i, ev f x))).run P w = .ok (.agg c) w := by
    simpa using h
  have e : (execOp (ev f) ⟨some d, .build T ps.toArray, ty, pos, af, gd⟩) = (do pure (.value (← Instr.build T (ps.toArray.map fun (i, x) => (i, ev f x))))) := by
    simp only [execOp]
  rw [e]
  simp only [Sem.run_bind, h2, Result.andThen_ok, Sem.run_pure]
def RVs (S : PH) : List Value → List α → Prop
  | [], [] => True
  | v :: vs, x :: l => RV S v x ∧ RVs S vs l
  | _, _ => False
theorem RVs.repL {S : PH} : ∀ {vs : List Value} {l : List α}, RVs S vs l → RepL S (vs.flatMap fun v => v.cells.toList) l ∧ vs.length = l.length
  | [], [], _ => ⟨rfl, rfl⟩
  | v :: vs, x :: l, ⟨h1, h2⟩ => by
    have ih := RVs.repL h2
    exact ⟨⟨v.cells.toList, _, by simp, h1.cells, ih.1⟩, by simp [ih.2]⟩
  | [], _ :: _, h => h.elim
  | _ :: _, [], h => h.elim
theorem RVs.size {S : PH} : ∀ {vs : List Value} {l : List α}, RVs S vs l → ∀ v ∈ vs, v.cells.size = Enc.sz α
  | [], [], _, v, hv => by simp at hv
  | u :: vs, x :: l, ⟨h1, h2⟩, v, hv => by
    rcases List.mem_cons.1 hv with rfl | hv
    · rw [← Array.length_toList]; exact Enc.len h1.cells
    · exact RVs.size h2 v hv
  | [], _ :: _, h, _, _ => h.elim
  | _ :: _, [], h, _, _ => h.elim
theorem ys_ (A B C X : List Value) (h : B.length = X.length) : jo_ (A ++ (B ++ C)).toArray A.length X = (A ++ (X ++ C)).toArray := by
  rw [← uq_ X _ _ (by simp; omega)]
  congr 1
  exact list_put A B C X h
theorem zg_ (sz : Nat) : ∀ (vs : List Value) (k : Nat) (A Z : List Value), A.length = k * sz → Z.length = vs.length * sz → (∀ v ∈ vs, v.cells.size = sz) →
    fillC (fun i => some (i * sz, sz)) (A ++ Z).toArray ((vs.zipIdx k).map fun p => (p.2, p.1.cells)) = some (A ++ vs.flatMap fun v => v.cells.toList).toArray
  | [], k, A, Z, hA, hZ, _ => by
    have : Z = [] := List.eq_nil_of_length_eq_zero (by simpa using hZ)
    subst this
    simp [fillC]
  | v :: vs, k, A, Z, hA, hZ, hv => by
    have h1 := hv v (by simp)
    rw [List.length_cons, Nat.add_mul, Nat.one_mul] at hZ
    simp only [List.zipIdx_cons, List.map_cons]
    unfold fillC
    simp only
    rw [if_neg (by simp [h1]; omega)]
    have hZ' : Z = Z.take sz ++ Z.drop sz := (List.take_append_drop sz Z).symm
    have e : jo_ (A ++ Z).toArray (k * sz) v.cells.toList = ((A ++ v.cells.toList) ++ Z.drop sz).toArray := by
      rw [← hA, hZ', ys_ A (Z.take sz) (Z.drop sz) v.cells.toList (by simp [h1]; omega)]
      simp
    rw [e, zg_ sz vs (k + 1) (A ++ v.cells.toList) (Z.drop sz) (by simp [hA, h1, Nat.add_mul]) (by simp; omega) (fun u hu => hv u (by simp [hu]))]
    simp [List.append_assoc]
theorem bf_ {bytes : Nat} {zv : Value} {zd : α} {ps : List (Nat × Operand)} {vs : List Value} {ln : Nat} {r : List α} (hd : Nat.blt d n = true) (hT : P.underlying T = some (.slice E)) (hE0 : Elem P α E bytes zv zd)
    (hps : (ps.map fun p => (p.1, ev f p.2)) = vs.zipIdx.map fun p => (p.2, p.1)) (hln : vs.length = ln) (hsm : ln * Enc.sz α ≤ 65536) (hsl : ln ≤ 65536) (hr : RVs S vs r) (hI : Inv w S O) (k : ∀ u w', Inv w' S (Row E u r :: O) → K (upd f d u) w') :
    OP P n ro ⟨some d, .buildSlice T ln ps.toArray, ty, pos, af, gd⟩ f w K := by
  obtain ⟨ei, hE⟩ := hE0
  obtain ⟨h1, h2⟩ := hr.repL
  have hmap : (ps.toArray.map fun (i, x) => (i, ev f x)) = (ps.map fun p => (p.1, ev f p.2)).toArray := by simp
  have hf : Instr.fill (fun i => some (i * ei.size, ei.size)) (madeCells zv.cells (ln * ei.size)) (vs.zipIdx.map fun p => (p.2, p.1)) = some (vs.flatMap fun v => v.cells.toList).toArray := by
    rw [fill_eq]
    have := zg_ (Enc.sz α) vs 0 [] (madeCells zv.cells (ln * ei.size)).toList (by simp) (by simp [madeCells, hln, hE.hs]) hr.size
    simp only [List.nil_append, Array.toArray_toList] at this
    rw [hE.hs] at this ⊢
    rw [← this, List.map_map]
    rfl
  have hz : ∀ w, (if ln * ei.size = 0 then (pure #[] : Sem (Array Value)) else do pure (← zeroValue E).cells).run P w = .ok (if ln * ei.size = 0 then #[] else zv.cells) w := by
    intro w
    split <;> simp [zeroValue, typeInfo, hE.hi, hE.hz]
  have hmade : ((Array.range (ln * ei.size)).map ((if ln * ei.size = 0 then #[] else zv.cells)[· % (if ln * ei.size = 0 then #[] else zv.cells).size]!)) = madeCells zv.cells (ln * ei.size) := by
    split
    · rename_i h0; rw [h0]; simp [madeCells]
    · rfl
  have hbig : ¬ (ln * ei.size > 2 ^ 24) := by rw [hE.hs]; omega
  have hrun : (Instr.buildSlice T ln (vs.zipIdx.map fun p => (p.2, p.1)).toArray).run P w = .ok (.slice (some ⟨w.heap.size, 0, none⟩) ln ln) (w.alloc (.cells (vs.flatMap fun v => v.cells.toList).toArray E)) := by
    unfold Instr.buildSlice
    have hsz : ∀ w, (sizeOf E).run P w = .ok ei.size w := fun w => by simp [sizeOf, typeInfo, hE.hi]
    simp only [Sem.run_bind, run_underlying hT, Result.andThen_ok, hsz]
    rw [if_neg hbig]
    have hzv : (zeroValue E).run P w = .ok zv w := by simp [zeroValue, typeInfo, hE.hi, hE.hz]
    by_cases h0 : ln * ei.size = 0
    · rw [if_pos h0]
      rw [if_pos h0] at hmade
      simp only [Sem.run_bind, Sem.run_pure, Result.andThen_ok, hmade, hf]
      simp [newRow]
    · rw [if_neg h0]
      rw [if_neg h0] at hmade
      simp only [Sem.run_bind, Sem.run_pure, Result.andThen_ok, hzv, hmade, hf]
      simp [newRow]
  refine dd_ hd (v := .slice (some ⟨w.heap.size, 0, none⟩) ln ln) (w' := w.alloc (.cells (vs.flatMap fun v => v.cells.toList).toArray E)) ?_ (k _ _ ?_)
  · have e : (execOp (ev f) ⟨some d, .buildSlice T ln ps.toArray, ty, pos, af, gd⟩) = (do pure (.value (← Instr.buildSlice T ln (vs.zipIdx.map fun p => (p.2, p.1)).toArray))) := by
      simp only [execOp, hmap, hps]
    rw [e]
    simp only [Sem.run_bind, hrun, Result.andThen_ok, Sem.run_pure]
  · refine (hI.new _).shut (A := Row E _ _) ?_
    refine .inr ⟨w.heap.size, ln, [], _, [], by simp [← h2, hln], ?_, h1, by omega, ?_, ?_⟩
    · simp
    · simp only [maxLen]
      omega
    · rw [← h2, hln]; simp
theorem bt_ {bytes : Nat} {zv : Value} {zd : α} {m r : List α} {ct : Array TypeId} (hd : Nat.blt d n = true) (hct : ct = #[T, T]) (hT : P.underlying T = some (.slice E)) (hE0 : Elem P α E bytes zv zd) (hby : bytes ≤ 65536) (hsz : 0 < Enc.sz α)
    (hx : ev f x = v) (hy : ev f y = u) (hI : Inv w S (Row E v l :: O)) (hs : Src w S u m) (hr : push? l m = some r)
    (k : ∀ v' w', Inv w' S (Row E v' r :: O) → K (upd f d v') w') :
    OP P n ro ⟨some d, .call ⟨.builtin .append, #[x, y], ct⟩, ty, pos, af, gd⟩ f w K := by
  subst hct
  obtain ⟨ei, hE⟩ := hE0
  obtain ⟨hlim, rfl⟩ := kl_ hr
  obtain ⟨ua, uc, hu, hun, hur⟩ := hs
  have hnews : ∃ news : List Value, RepL S news m ∧ ∀ w' : World, (∀ (b : Nat) (o : Obj), w.heap[b]? = some o → w'.heap[b]? = some o) → (Builtin.firstCells (Enc.sz α) m.length u).run P w' = .ok news.toArray w' := by
    cases ua with
    | none =>
      have := hun rfl
      subst this
      exact ⟨[], rfl, fun w' _ => by rw [hu]; exact run_firstCells_none (P := P) w' _ _ _ _⟩
    | some ad =>
      obtain ⟨news, h1, h2⟩ := (hur ad rfl).repL
      refine ⟨news, h1, fun w' hw => ?_⟩
      rw [hu]
      refine run_firstCells_some (P := P) w' (Enc.sz α) m.length ad m.length uc news h1.len fun j q hq => ?_
      have := h2 j q hq
      unfold World.cell? at this ⊢
      cases hh : w.heap[(ad.add j).block]? with
      | none => rw [hh] at this; cases this
      | some o => rw [hh] at this; rw [hw _ _ hh]; exact this
  obtain ⟨news, hrep, hfirst⟩ := hnews
  have hlen : (Builtin.lenOf u).run P w = .ok m.length w := by rw [hu]; rfl
  have hsize : ∀ w, (sizeOf E).run P w = .ok (Enc.sz α) w := fun w => by simp [sizeOf, typeInfo, hE.hi, hE.hs]
  have hinfo : ∀ w, (typeInfo E).run P w = .ok ei w := fun w => by simp [typeInfo, hE.hi]
  have hzero : ∀ w, (zeroValue E).run P w = .ok zv w := fun w => by simp [zeroValue, typeInfo, hE.hi, hE.hz]
  have key : ∃ v' w', (Builtin.append_ #[T, T] ty #[v, u]).run P w = .ok v' w' ∧ Inv w' S (Row E v' (l ++ m) :: O) := by
    obtain ⟨h, hk, hI'⟩ := hI.open_
    rcases hk with ⟨rfl, rfl, rfl⟩ | ⟨g, cap, pre, ls, post, rfl, rfl, h3, h4, h5, h6⟩
    · -- nil
      by_cases hm : m = []
      · subst hm
        have : news = [] := hrep
        subst this
        refine ⟨.slice none 0 0, w, ?_, by simpa using hI⟩
        have := hfirst w (fun _ _ h => h)
        simp only [List.length_nil] at this hlen
        simp [Builtin.append_, run_underlying hT, hsize, hlen, this]
      · have h0 : 0 < m.length := List.length_pos_iff.2 hm
        cases ua with
        | none => exact absurd (hun rfl) hm
        | some ad =>
          obtain ⟨news', h1, h2⟩ := (hur ad rfl).repL
          subst hu
          have hrun := run_append_nil (P := P) w T ty E ei zv hT hE.hi hE.hz ad m.length uc news' (by rw [hE.hs]; exact h1.len) h2 h0 (by simp at hlim; omega) (by
            rw [hE.hb]
            have : m.length * bytes ≤ 2147483648 * 65536 := Nat.mul_le_mul (by simpa using hlim) hby
            omega)
          refine ⟨_, _, hrun, ?_⟩
          have hI2 := (hI'.drop.drew).new (.cells (news'.toArray ++ Builtin.zeroCells zv.cells (grownCap w m.length 0 E - m.length)) E)
          refine hI2.shut (A := Row E _ _) (.inr ⟨w.heap.size, grownCap w m.length 0 E, [], news', (Builtin.zeroCells zv.cells (grownCap w m.length 0 E - m.length)).toList, by simp, ?_, h1, grownCap_ge w m.length 0 E, grownCap_le_maxLen w _ _ _ (by simp only [maxLen]; simp at hlim; omega), ?_⟩)
          · congr 2
            apply Array.ext'
            simp
          · have hge := grownCap_ge w m.length 0 E
            simp only [List.nil_append, Array.length_toList, size_zeroCells, hE.hzs]
            rw [← Nat.add_mul]
            exact Nat.mul_le_mul_right _ (by omega)
    · by_cases hroom : l.length + m.length ≤ cap
      · -- room
        have hl1 := hrep.len
        have hl3 := h3.len
        have hfit : news.length ≤ post.length := by
          have := Nat.mul_le_mul_right (Enc.sz α) hroom
          rw [Nat.add_mul] at this
          omega
        have hpost : post = post.take news.length ++ post.drop news.length := (List.take_append_drop _ _).symm
        have eq1 : pre ++ (ls ++ post) = (pre ++ ls) ++ (post.take news.length ++ post.drop news.length) := by rw [← hpost, List.append_assoc]
        rw [eq1] at hI'
        obtain ⟨w', hst, hI''⟩ := gc_ (P := P) (X := news) hI' (by simp; omega) (fun q hq => hrep.cell1 q hq)
        refine ⟨.slice (some ⟨g, pre.length, none⟩) (l.length + m.length) cap, w', ?_, hI''.shut (A := Row E _ _) (.inr ⟨g, cap, pre, ls ++ news, post.drop news.length, by simp, by simp [List.append_assoc], h3.append hrep, by simpa using hroom, h5, ?_⟩)⟩
        · have hf := hfirst w (fun _ _ h => h)
          have hadd : (⟨g, pre.length, none⟩ : Addr).add (l.length * Enc.sz α) = ⟨g, (pre ++ ls).length, none⟩ := by rw [hv_, ← hl3]; simp
          simp [Builtin.append_, run_underlying hT, hsize, hlen, hroom, hf, hadd]
          have := hst
          simp only [List.length_append] at this
          simp [this]
        · simp only [List.length_append, List.length_drop, Nat.add_mul]
          omega
      · -- a new block
        have hb := hI'.front g _ (by simp [Hp.one]; rfl)
        have hcells := cell_row hb
        have h63 : ¬ ((((l.length + m.length : Nat) : Int)) > IntKind.i64.max ∧ (ei.bytes = 0)) := by
          rintro ⟨h, _⟩
          simp [IntKind.max, IntKind.signed, IntKind.bits] at h
          omega
        have hnext : ¬ (281474976710656 < Builtin.nextslicecap (l.length + m.length) cap * ei.bytes) := by
          have hfits := growslice_fits (need := l.length + m.length) (old := cap) (bytes := bytes) (by omega) (by
            have : (l.length + m.length) * bytes ≤ 2147483648 * 65536 := Nat.mul_le_mul hlim hby
            omega)
          rw [hE.hb]
          omega
        have hf := hfirst w.drew (fun _ _ h => h)
        have hfo := run_firstCells_some (P := P) w.drew (Enc.sz α) l.length ⟨g, pre.length, none⟩ l.length cap ls h3.len (by simpa using hcells)
        have h63' : ¬ (9223372036854775807 < ((l.length : Int) + (m.length : Int))) := by omega
        have hrun : (Builtin.append_ #[T, T] ty #[.slice (some ⟨g, pre.length, none⟩) l.length cap, u]).run P w =
            .ok (.slice (some ⟨w.heap.size, 0, none⟩) (l.length + m.length) (grownCap w (l.length + m.length) cap E))
              (w.drew.alloc (.cells (ls.toArray ++ news.toArray ++ Builtin.zeroCells zv.cells (grownCap w (l.length + m.length) cap E - (l.length + m.length))) E)) := by
          have hroom' : ¬ (l.length + m.length ≤ cap) := hroom
          simp [Builtin.append_, run_underlying hT, hsize, hlen, hinfo, hzero, hroom', h63', hnext, Question.forced, hf, hfo, newRow, grownCap]
          congr 2
          apply Array.ext'
          simp [List.append_assoc]
        refine ⟨_, _, hrun, ?_⟩
        have hI2 := (hI'.drop.drew).new (.cells (ls.toArray ++ news.toArray ++ Builtin.zeroCells zv.cells (grownCap w (l.length + m.length) cap E - (l.length + m.length))) E)
        have hge := grownCap_ge w (l.length + m.length) cap E
        refine hI2.shut (A := Row E _ _) (.inr ⟨w.heap.size, grownCap w (l.length + m.length) cap E, [], ls ++ news, (Builtin.zeroCells zv.cells (grownCap w (l.length + m.length) cap E - (l.length + m.length))).toList, by simp, ?_, h3.append hrep, by simpa using hge, grownCap_le_maxLen w _ _ _ (by simp only [maxLen]; omega), ?_⟩)
        · congr 2
          apply Array.ext'
          simp [List.append_assoc]
        · simp only [List.length_append, Array.length_toList, size_zeroCells, hE.hzs]
          rw [← Nat.add_mul]
          exact Nat.mul_le_mul_right _ (by omega)
  obtain ⟨v', w', hrun, hI'⟩ := key
  refine dd_ hd (v := v') (w' := w') ?_ (k _ _ hI')
  simp [execOp, hx, hy, resolve, invoke, builtin, hrun]
end ops
end Go.Proofs.YtlpdpeghgndmkaaGreat.Pad
end

section
namespace Go.Proofs.YtlpdpeghgndmkaaGreat.Pad
open Go
variable {ro : Option Nat}
def frV : List Value → Nat → Value
  | [], _ => undef
  | v :: _, 0 => v
  | _ :: l, i + 1 => frV l i
def fr0 (l : List Value) : Fr := ⟨frV l, []⟩
theorem fr0_eq : ∀ (l : List Value) (i : Nat), (l.toArray).getD i undef = frV l i
  | [], i => by simp [frV, Array.getD_eq_getD_getElem?]
  | v :: l, 0 => by simp [frV, Array.getD_eq_getD_getElem?]
  | v :: l, i + 1 => by
    have := fr0_eq l i
    simp only [Array.getD_eq_getD_getElem?, List.getElem?_toArray] at this ⊢
    simpa [frV] using this
def lp_ (S : PH) (Fr : List HP) (Ψ : PH → Value → List HP → Prop) : Ending → World → Prop
  | .returned v, w' => ∃ T O', S.Le T ∧ Inv w' T (O' ++ Fr) ∧ Ψ T v O'
  | _, _ => False
abbrev bw_ (S : PH) (Fr : List HP) (r : Value) : Ending → World → Prop := lp_ S Fr fun _ v O' => v = r ∧ O' = []
section
variable {P : Program} {n k : Nat}
def wn_ (P : Program) (fn : Func) (n : Nat) (f : Fr) (w : World) (v : Value) : Prop := ∀ a, Fits n a f → (results fn a.tmps).run P w = .ok v w
theorem bo_ {fn : Func} {t : Nat} {f : Fr} {w : World} {v : Value} (h : fn.results = #[.tmp t]) (hv : f t = v) : wn_ P fn n f w v := by
  intro a ha
  rw [results_tmp h, ha.at_ t, hv]
theorem qy_ {fn : Func} {t u : Nat} {f : Fr} {w : World} {v1 v2 : Value} (h : fn.results = #[.tmp t, .tmp u]) (h1 : f t = v1) (h2 : f u = v2) : wn_ P fn n f w (.tuple #[v1, v2]) := by
  intro a ha
  rw [results_tmp2 h, ha.at_ t, ha.at_ u, h1, h2]
theorem res3 {fn : Func} {t u s : Nat} {f : Fr} {w : World} {v1 v2 v3 : Value} (h : fn.results = #[.tmp t, .tmp u, .tmp s]) (h1 : f t = v1) (h2 : f u = v2) (h3 : f s = v3) : wn_ P fn n f w (.tuple #[v1, v2, v3]) := by
  intro a ha
  simp [results, h]
  have e1 := ha.at_ t
  have e2 := ha.at_ u
  have e3 := ha.at_ s
  simp only [Array.getD_eq_getD_getElem?] at e1 e2 e3
  rw [e1, e2, e3, h1, h2, h3]
  exact ⟨rfl, rfl, rfl⟩
theorem res0 {fn : Func} {f : Fr} {w : World} (h : fn.results = #[]) : wn_ P fn n f w (.tuple #[]) := by
  intro a ha
  rw [results_none h]
def Ret (P : Program) (fn : Func) (n : Nat) (R : Ending → World → Prop) (f : Fr) (w : World) : Prop := f.ds = [] ∧ ∃ v, wn_ P fn n f w v ∧ R (.returned v) w
def mkDs (Ds : List Nat) : List Deferred := Ds.map fun D => { target := .collected D, args := #[] }
def Going (P : Program) (fn : Func) (n : Nat) (R : Ending → World → Prop) (f : Fr) : List Nat → World → Prop
  | [], w => ∃ v, wn_ P fn n f w v ∧ R (.returned v) w
  | D :: Ds, w => w.heap[D]? = some (.deferred (some [])) ∧ Going P fn n R f Ds { w with heap := w.heap.setIfInBounds D (.deferred none) }
def RetM (P : Program) (fn : Func) (n : Nat) (R : Ending → World → Prop) (f : Fr) (w : World) : Prop := ∃ Ds, f.ds = mkDs Ds ∧ Going P fn n R f Ds w
theorem vj_ {fn : Func} {R : Ending → World → Prop} {f : Fr} : ∀ (Ds : List Nat) (w : World) (fr : Frame) (cs : List Frame), fr.mode = .returning → fr.defers = mkDs Ds → P.funcs[fr.fn]? = some fn → fr.kind = .normal →
    (∀ ds, Fits n { tmps := fr.tmps, defers := ds } { f with ds := ds }) → Going P fn n R f Ds w → ∃ v w' fr', R (.returned v) w' ∧ Steps P (lone fr cs w) (lone fr' cs w') ∧ fr'.fn = fr.fn ∧ fr'.leaving P w' (.returned v)
  | [], w, fr, cs, hm, hd, hf, hk, hfit, ⟨v, hv, hR⟩ => by
    have hv' := hv { tmps := fr.tmps, defers := f.ds } (hfit f.ds)
    exact ⟨v, w, fr, hR, Steps.refl P _, rfl, hm, hd, hk, fn, hf, hv'⟩
  | D :: Ds, w, fr, cs, hm, hd, hf, hk, hfit, ⟨hD, hg⟩ => by
    obtain ⟨v, w', fr', h1, h2, h4, h3⟩ := vj_ Ds _ { fr with defers := mkDs Ds } cs hm rfl hf hk hfit hg
    refine ⟨v, w', fr', h1, Steps.trans (.one (step_lone_go ?_)) h2, h4, h3⟩
    have hd' : fr.defers = { target := .collected D, args := #[] } :: mkDs Ds := hd
    have ht : (Instr.takeDeferred D).run P w = .ok [] { w with heap := w.heap.setIfInBounds D (.deferred none) } := by
      simp [Instr.takeDeferred, Sem.run_bind, getObj, setObj, Sem.run, hD, Result.andThen]
    simp [stepG, unwind, hm, hd', Sem.runT_eq, ht, GStep.bare_after]
theorem ao_ {fn : Func} {c : Code} {vs : List Value} {w : World} {R : Ending → World → Prop} (hf : P.funcs[k]? = some fn) (hb : fn.body = some c) (hn : fn.ntmps = n) (hl : Nat.ble vs.length n = true)
    (h : WP P n none c (Ret P fn n R) (Ret P fn n R) (fun _ _ _ => False) (fr0 vs) w) : Calls P k vs.toArray w R := by
  refine FW_calls.1 (callsIn_of_wp (F := FW none) (n := 0) hf hb trivial ?_ rfl)
  have hsz : vs.toArray.size ≤ n := by simpa using Nat.le_of_ble_eq_true hl
  have hfit := Fits.enter (args := vs.toArray) hsz
  have e : (⟨fun i => vs.toArray.getD i undef, []⟩ : Fr) = fr0 vs := congrArg (fun g => (⟨g, []⟩ : Fr)) (funext fun i => fr0_eq vs i)
  rw [e] at hfit
  rw [hn]
  refine Go.wpIn_mono (h _ hfit) fun ex a w' hq => ?_
  obtain ⟨f', hf', hq⟩ := hq
  cases ex with
  | normal => obtain ⟨hd, v, hv, hr⟩ := hq; exact ⟨hf'.defers.trans hd, v, hv a hf', hr⟩
  | ret => obtain ⟨hd, v, hv, hr⟩ := hq; exact ⟨hf'.defers.trans hd, v, hv a hf', hr⟩
  | exit i => exact hq.elim
  | goto l => exact hq.elim
  | panic ch => exact hq.elim
  | outgrown => exact hq.elim
theorem ij_ {fn : Func} {c : Code} {vs : List Value} {w : World} {R : Ending → World → Prop} (hf : P.funcs[k]? = some fn) (hb : fn.body = some c) (hn : fn.ntmps = n) (hl : Nat.ble vs.length n = true)
    (h : WP P n none c (RetM P fn n R) (RetM P fn n R) (fun _ _ _ => False) (fr0 vs) w) : Calls P k vs.toArray w R := by
  intro cs
  have hsz : vs.toArray.size ≤ n := by simpa using Nat.le_of_ble_eq_true hl
  have hfit := Fits.enter (args := vs.toArray) hsz
  have e : (⟨fun i => vs.toArray.getD i undef, []⟩ : Fr) = fr0 vs := congrArg (fun g => (⟨g, []⟩ : Fr)) (funext fun i => fr0_eq vs i)
  rw [e] at hfit
  let b : Frame := { (default : Frame) with fn := k, kind := .normal }
  have henter : Frame.enter P k vs.toArray .normal = b.at { tmps := vs.toArray ++ Array.replicate (n - vs.toArray.size) undef, defers := [] } [.code c] := by
    simp [Frame.enter, Frame.at, hf, hb, hn, b]
  obtain ⟨ex, a', w', ⟨f', hf', hq⟩, harr⟩ := (wpIn_wide (n := 0)).1 (h _ hfit) b [] cs
  rw [← henter] at harr
  have fin : RetM P fn n R f' w' → ∀ fr : Frame, fr.mode = .returning → fr.defers = a'.defers → fr.tmps = a'.tmps → fr.fn = k → fr.kind = .normal → Steps P (lone (Frame.enter P k vs.toArray .normal) cs w) (lone fr cs w') →
      ∃ e w'' fr', R e w'' ∧ Comes P (lone (Frame.enter P k vs.toArray .normal) cs w) (lone fr' cs w'') e ∧ fr'.fn = k ∧ fr'.leaving P w'' e := by
    rintro ⟨Ds, hds, hg⟩ fr hm hd ht hfn hk hs
    obtain ⟨v, w'', fr', h1, h2, h4, h3⟩ := vj_ Ds w' fr cs hm (by rw [hd, hf'.defers, hds]) (by rw [hfn]; exact hf) hk (fun ds => ⟨by rw [ht]; exact hf'.size, rfl, fun i => by rw [ht]; exact hf'.at_ i⟩) hg
    exact ⟨.returned v, w'', fr', h1, Steps.trans hs h2, h4.trans hfn, h3⟩
  cases ex with
  | normal => exact fin hq { b.at a' [] with mode := .returning } rfl rfl rfl rfl rfl (Steps.trans harr (.one step_end))
  | ret => obtain ⟨todo, hs⟩ := harr; exact fin hq { b.at a' todo with mode := .returning } rfl rfl rfl rfl rfl hs
  | exit i => exact hq.elim
  | goto l => exact hq.elim
  | panic ch => exact hq.elim
  | outgrown => exact hq.elim
def ax_ (P : Program) (k : FuncId) : Prop := ∃ fn, P.funcs[k]? = some fn ∧ fn.body.isNone = false ∧ (fn.name == "runtime.NumGoroutine") = false
variable {f : Fr} {w : World} {K : Fr → World → Prop} {d : Nat} {ty : TypeId} {pos : String} {af : Array Edge} {gd : Option (Nat × Bool)}
theorem wp_ {o : Oper} {vs : Array Value} {R : Ending → World → Prop} (hrun : ∀ a, Fits n a f → (execOp a.eval o).run P w = .ok (.enter k vs) w)
    (hc : Calls P k vs w R) (hR : ∀ e w', R e w' → ∃ v, e = .returned v ∧ dstOk n o.dst = true ∧ K (updO f o.dst v) w') : OP P n ro o f w K := by
  intro a ha Q
  refine ⟨fun _ _ => trivial, ?_⟩
  rw [qw_ (hrun a ha) (fun _ e => by cases e)]
  refine ⟨fun h => (by cases h), FW_calls.2 (hc.mono fun e w' h => ?_)⟩
  obtain ⟨v, rfl, hd, hk⟩ := hR e w' h
  exact ⟨_, ha.putO hd v, hk⟩
theorem run_call {vs : Array Value} {args : Array Operand} {ct : Array TypeId} {g : Operand} {cap : Array Value} {dst : Option Nat} (hk : ax_ P k) (hg : ev f g = .func (.func k) #[] cap) (hargs : (args.map (ev f)) ++ cap = vs) :
    ∀ a, Fits n a f → (execOp a.eval ⟨dst, .call ⟨.value g, args, ct⟩, ty, pos, af, gd⟩).run P w = .ok (.enter k vs) w := by
  intro a ha
  obtain ⟨fn, h1, h2, h3⟩ := hk
  rw [ha.eval]
  subst hargs
  have h3' : fn.name ≠ "runtime.NumGoroutine" := by simpa using h3
  have h2' : fn.body ≠ none := by intro e; rw [e] at h2; cases h2
  simp [execOp, resolve, hg, Deferred.ofValue, invoke, callFunc, h1]
  rw [if_neg h3', if_neg h2']
theorem xl_ {vs : List Value} {args : Array Operand} {ct : Array TypeId} {g : Operand} {cap : Array Value} {S : PH} {Fr : List HP} {Ψ : PH → Value → List HP → Prop} (hd : Nat.blt d n = true) (hk : ax_ P k) (hg : ev f g = .func (.func k) #[] cap)
    (hargs : (args.map (ev f)) ++ cap = vs.toArray) (hc : Calls P k vs.toArray w (lp_ S Fr Ψ))
    (kont : ∀ v w' T O', S.Le T → Inv w' T (O' ++ Fr) → Ψ T v O' → K (upd f d v) w') : OP P n ro ⟨some d, .call ⟨.value g, args, ct⟩, ty, pos, af, gd⟩ f w K := by
  refine wp_ (run_call hk hg hargs) hc fun e w' h => ?_
  cases e with
  | returned v => obtain ⟨T, O', h1, h2, h3⟩ := h; exact ⟨v, rfl, hd, kont v w' T O' h1 h2 h3⟩
  | panicked c => exact h.elim
  | outgrown => exact h.elim
theorem uu_ {vs : List Value} {args : Array Operand} {ct : Array TypeId} {g : Operand} {cap : Array Value} {S : PH} {O : List HP} {r : Value} (hd : Nat.blt d n = true) (hk : ax_ P k) (hg : ev f g = .func (.func k) #[] cap)
    (hargs : (args.map (ev f)) ++ cap = vs.toArray) (hI : Inv w S O) (hc : ∀ Fr, Inv w S Fr → Calls P k vs.toArray w (bw_ S Fr r))
    (kont : ∀ w', Inv w' S O → K (upd f d r) w') : OP P n ro ⟨some d, .call ⟨.value g, args, ct⟩, ty, pos, af, gd⟩ f w K := by
  obtain ⟨Fr, hFr, back⟩ := hI.exactly
  refine xl_ hd hk hg hargs (hc Fr hFr) fun v w' T O' hle hI' hv => ?_
  obtain ⟨rfl, rfl⟩ := hv
  exact kont w' (back hI' hle)
theorem Calls.doneMono {vs : Array Value} {S : PH} {Fr : List HP} {Ψ Ψ' : PH → Value → List HP → Prop} (h : Calls P k vs w (lp_ S Fr Ψ)) (hm : ∀ T v O', Ψ T v O' → Ψ' T v O') : Calls P k vs w (lp_ S Fr Ψ') :=
  h.mono fun e w' he => by
    cases e with
    | returned v => obtain ⟨T, O', h1, h2, h3⟩ := he; exact ⟨T, O', h1, h2, hm _ _ _ h3⟩
    | panicked c => exact he
    | outgrown => exact he
end
section
variable {w : World} {S : PH} {O : List HP}
def st_ : List HP → Prop
  | [] => True
  | A :: l => A.Free ∧ st_ l
theorem own_free {w' : World} {S U : PH} {Fr : List HP} {O : List HP} (h2 : ∀ w' S' V, Own w' S' V Fr → Own w' S V O) : ∀ {M : List HP} {V : Hp}, st_ M → Own w' U V (M ++ Fr) → Own w' S V (M ++ O)
  | [], V, _, h => h2 _ _ _ h
  | B :: M, V, ⟨hB, hM⟩, ⟨k, hk, hd, hr⟩ => ⟨k, hB _ _ _ hk, hd, own_free h2 hM hr⟩
theorem Inv.lendN : ∀ (L : List HP) {O : List HP}, Inv w S (L ++ O) → ∃ T, ∃ hs : List Hp, ∃ Fr : List HP, S.Le T ∧ Inv w T Fr ∧ hs.length = L.length ∧
    (∀ (i : Nat) A h, L[i]? = some A → hs[i]? = some h → A.p S h ∧ h.Le T.m) ∧ ∀ {w' U} (M : List HP), st_ M → Inv w' U (M ++ Fr) → T.Le U → Inv w' S (M ++ (L ++ O)) := by
  intro L O hI
  have gen : ∀ (L : List HP) (U : Hp), Own w S U (L ++ O) → ∃ hs : List Hp, ∃ V : Hp, hs.length = L.length ∧ U.Le V ∧ (∀ (i : Nat) A h, L[i]? = some A → hs[i]? = some h → A.p S h ∧ h.Le V) ∧ Own w S V O ∧
      ∀ w' (M : List HP), Own w' S V (M ++ O) → Own w' S U (M ++ (L ++ O)) := by
    intro L
    induction L with
    | nil => intro U h; exact ⟨[], U, rfl, Hp.Le.refl _, by simp, h, fun _ _ h => h⟩
    | cons A L ih =>
      rintro U ⟨k, hA, hd, hr⟩
      obtain ⟨hs, V, h1, h2, h3, h4, h5⟩ := ih _ hr
      refine ⟨k :: hs, V, by simp [h1], (Hp.le_un_right hd).trans h2, ?_, h4, fun w' M h' => Own.perm List.perm_middle.symm _ ⟨k, hA, hd, h5 w' M h'⟩⟩
      intro i B h hB hh
      cases i with
      | zero => simp at hB hh; subst hB; subst hh; exact ⟨hA, (Hp.le_un_left _ _).trans h2⟩
      | succ i => exact h3 i B h (by simpa using hB) (by simpa using hh)
  obtain ⟨hs, V, h1, h2, h3, h4, h5⟩ := gen L S.m hI.own
  obtain ⟨es, h6, h7⟩ := Own.exactly h4
  have hle : S.Le ⟨V, S.os, S.out⟩ := ⟨h2, rfl, rfl⟩
  refine ⟨⟨V, S.os, S.out⟩, hs, es.map HP.exact, hle, ⟨hI.os, hI.out, Own.upS hle h6⟩, h1, h3, fun {w' U} M hM h' htu => ?_⟩
  exact ⟨h'.os.trans htu.os, h'.out.trans htu.out, h5 w' M (own_free h7 hM (Own.antitone htu.m h'.own))⟩
variable {α β γ δ : Type} [Enc α] [Enc β] [Enc γ] [Enc δ] {T1 T2 T3 T4 : TypeId} {v1 v2 v3 v4 : Value} {l1 : List α} {l2 : List β} {l3 : List γ} {l4 : List δ}
theorem Inv.lend1 (h : Inv w S (Row T1 v1 l1 :: O)) : ∃ T, ∃ Fr : List HP, S.Le T ∧ Inv w T Fr ∧ RV T v1 l1 ∧ ∀ {w' U} (M : List HP), st_ M → Inv w' U (M ++ Fr) → T.Le U → Inv w' S (M ++ (Row T1 v1 l1 :: O)) := by
  obtain ⟨T, hs, Fr, a, b, c, e, back⟩ := Inv.lendN [Row T1 v1 l1] h
  match hs, c with
  | [h1], _ =>
    obtain ⟨p1, q1⟩ := e 0 _ _ rfl rfl
    exact ⟨T, Fr, a, b, RowP.rv p1 a q1, back⟩
theorem Inv.lend2 (h : Inv w S (Row T1 v1 l1 :: Row T2 v2 l2 :: O)) : ∃ T, ∃ Fr : List HP, S.Le T ∧ Inv w T Fr ∧ RV T v1 l1 ∧ RV T v2 l2 ∧ ∀ {w' U} (M : List HP), st_ M → Inv w' U (M ++ Fr) → T.Le U → Inv w' S (M ++ (Row T1 v1 l1 :: Row T2 v2 l2 :: O)) := by
  obtain ⟨T, hs, Fr, a, b, c, e, back⟩ := Inv.lendN [Row T1 v1 l1, Row T2 v2 l2] h
  match hs, c with
  | [h1, h2], _ =>
    obtain ⟨p1, q1⟩ := e 0 _ _ rfl rfl
    obtain ⟨p2, q2⟩ := e 1 _ _ rfl rfl
    exact ⟨T, Fr, a, b, RowP.rv p1 a q1, RowP.rv p2 a q2, back⟩
variable {ε ζ : Type} [Enc ε] [Enc ζ] {T5 T6 : TypeId} {v5 v6 : Value} {l5 : List ε} {l6 : List ζ}
end
def FnV {α : Type} [Enc α] (P : Program) (S : PH) (v : Value) (g : α → Option Bool) : Prop :=
  ∃ (k : FuncId) (cap : List Value), v = .func (.func k) #[] cap.toArray ∧ ax_ P k ∧ ∀ T w Fr u x r, S.Le T → Inv w T Fr → RV T u x → g x = some r → Calls P k (u :: cap).toArray w (bw_ T Fr (.bool r))
theorem FnV.mono {α : Type} [Enc α] {P : Program} {S T : PH} {v : Value} {g : α → Option Bool} (h : FnV P S v g) (hle : S.Le T) : FnV P T v g := by
  obtain ⟨k, cap, h1, h2, h3⟩ := h
  exact ⟨k, cap, h1, h2, fun U w Fr u x r hu => h3 U w Fr u x r (hle.trans hu)⟩
theorem kn_ {α : Type} [Enc α] {P : Program} {n d : Nat} {f : Fr} {w : World} {K : Fr → World → Prop} {ty : TypeId} {pos : String} {af : Array Edge} {gd : Option (Nat × Bool)} {x y : Operand} {ct : Array TypeId} {S : PH} {O : List HP} {v u : Value} {g : α → Option Bool} {e : α} {r : Bool}
    (hd : Nat.blt d n = true) (hx : ev f x = v) (hv : FnV P S v g) (hy : ev f y = u) (hu : RV S u e) (hr : g e = some r) (hI : Inv w S O) (kont : ∀ w', Inv w' S O → K (upd f d (.bool r)) w') :
    OP P n ro ⟨some d, .call ⟨.value x, #[y], ct⟩, ty, pos, af, gd⟩ f w K := by
  obtain ⟨k, cap, rfl, h2, h3⟩ := hv
  exact uu_ (vs := u :: cap) hd h2 hx (by simp [hy]) hI (fun Fr hFr => h3 S w Fr u e r (PH.Le.refl S) hFr hu hr) kont
theorem bnd {α β : Type} {x : Option α} {k : α → Option β} {r : β} (h : x.bind k = some r) : ∃ y, x = some y ∧ k y = some r := Option.bind_eq_some_iff.1 h
theorem ifs {α : Type} {c : Bool} {x y : Option α} {r : α} (h : (if c = true then x else y) = some r) : (c = true ∧ x = some r) ∨ (c = false ∧ y = some r) := by
  cases c
  · exact .inr ⟨rfl, h⟩
  · exact .inl ⟨rfl, h⟩
end Go.Proofs.YtlpdpeghgndmkaaGreat.Pad
end

section
namespace Go.Proofs.YtlpdpeghgndmkaaGreat.Pad
open Go
variable {ro : Option Nat}
def AllP : List Nat → (Nat → Prop) → Prop
  | [], _ => True
  | a :: l, p => p a ∧ AllP l p
theorem AllP.of {p : Nat → Prop} : ∀ {l : List Nat}, (∀ a ∈ l, p a) → AllP l p
  | [], _ => trivial
  | a :: l, h => ⟨h a (by simp), AllP.of fun b hb => h b (by simp [hb])⟩
structure Sp where
  dst : Option Nat
  anc : List Nat
  deps : List Nat
  fact : List Value → PH → Prop
  rd : List Nat
  cons : List Nat
  prod : List Nat
  mono : ∀ {vs : List Value} {S T : PH}, S.Le T → fact vs S → fact vs T
structure Tok where
  prod : Option Nat
  cons : Option Nat
  deps : List Nat
  e : List Value → HP
def OPg (P : Program) (n : Nat) (ro : Option Nat) (ops : Array Oper) (i : Nat) (f : Fr) (w : World) (K : Fr → World → Prop) : Prop :=
  ∀ a, Fits n a f → ∀ Q, wpOpIn (FW ro) 0 P ops Q i (fun a' w' => ∃ f', Fits n a' f' ∧ K f' w') a w
section
variable {P : Program} {n : Nat} {ops : Array Oper} {i : Nat} {f : Fr} {w : World} {K : Fr → World → Prop}
theorem opg_plain {o : Oper} (ho : ops[i]? = some o) (hg : o.guard = none) (h : OP P n ro o f w K) : OPg P n ro ops i f w K := by
  intro a ha Q
  unfold wpOpIn
  rw [ho]
  simp only
  rw [if_pos (by simp [Region.wanted, hg])]
  exact h a ha Q
theorem opg_taken {o : Oper} {j d : Nat} {b c : Bool} (ho : ops[i]? = some o) (hg : o.guard = some (j, b)) (hj : (ops[j]?).bind (·.dst) = some d) (hd : Nat.blt d n = true) (hv : f d = .bool c) (hc : c = b) (h : OP P n ro o f w K) : OPg P n ro ops i f w K := by
  intro a ha Q
  unfold wpOpIn
  rw [ho]
  simp only
  rw [if_pos (by rw [qs_ ha hg hj hd hv]; simp [hc])]
  exact h a ha Q
theorem opg_skip {o : Oper} {j d : Nat} {b c : Bool} (ho : ops[i]? = some o) (hg : o.guard = some (j, b)) (hj : (ops[j]?).bind (·.dst) = some d) (hd : Nat.blt d n = true) (hv : f d = .bool c) (hc : c = !b) (hdo : dstOk n o.dst = true) (h : K (updO f o.dst undef) w) : OPg P n ro ops i f w K := by
  intro a ha Q
  unfold wpOpIn
  rw [ho]
  simp only
  rw [if_neg (by rw [qs_ ha hg hj hd hv, hc]; cases b <;> simp)]
  exact ⟨fun _ _ => trivial, _, ha.putO hdo undef, h⟩
end
def noTok : Tok := ⟨none, none, [], fun _ => HP.exact Hp.emp⟩
def jt_ (tks : List Tok) (vals : Nat → Value) (t : Nat) : HP := (tks.getD t noTok).e ((tks.getD t noTok).deps.map vals)
def Ob (P : Program) (n : Nat) (ro : Option Nat) (ops : Array Oper) (sps : List Sp) (tks : List Tok) (f0 : Fr) (S : PH) (i : Nat) (s : Sp) : Prop :=
  ∀ (vals : Nat → Value) (f : Fr) (w : World) (S' : PH) (X : List HP), S.Le S' →
    AllP s.anc (fun j => ∀ t, sps[j]? = some t → (∀ d, t.dst = some d → f d = vals j) ∧ t.fact (t.deps.map vals) S') →
    (∀ d, (∀ (j : Nat) (t : Sp), sps[j]? = some t → t.dst = some d → i ∈ t.anc ∨ i = j) → f d = f0 d) →
    Inv w S' (s.cons.map (jt_ tks vals) ++ (s.rd.map (jt_ tks vals) ++ X)) →
    OPg P n ro ops i f w fun f' w' => ∃ v S'', f' = updO f s.dst v ∧ S'.Le S'' ∧ s.fact (s.deps.map (upv vals i v)) S'' ∧
      Inv w' S'' (s.prod.map (jt_ tks (upv vals i v)) ++ (s.rd.map (jt_ tks vals) ++ X))
def Obs (P : Program) (n : Nat) (ro : Option Nat) (ops : Array Oper) (sps : List Sp) (tks : List Tok) (f0 : Fr) (S : PH) : Nat → List Sp → Prop
  | _, [] => True
  | i, s :: r => Ob P n ro ops sps tks f0 S i s ∧ Obs P n ro ops sps tks f0 S (i + 1) r
theorem Obs.at_ {P : Program} {n : Nat} {ops : Array Oper} {sps : List Sp} {tks : List Tok} {f0 : Fr} {S : PH} : ∀ {r : List Sp} {i k : Nat} {s : Sp}, Obs P n ro ops sps tks f0 S i r → r[k]? = some s → Ob P n ro ops sps tks f0 S (i + k) s
  | [], _, _, _, _, h => by simp at h
  | t :: r, i, 0, s, h, hk => by simp at hk; subst hk; exact h.1
  | t :: r, i, k + 1, s, h, hk => by
    have := Obs.at_ (k := k) h.2 (by simpa using hk)
    rwa [show i + 1 + k = i + (k + 1) by omega] at this
def qd_ (o : Oper) : List Nat := (o.after.toList.filter (Region.binds .any)).map (·.on)
def zp_ (ops : List Oper) (sps : List Sp) (tks : List Tok) : Bool :=
  ops.length == sps.length &&
  (List.range sps.length).all (fun i => match ops[i]?, sps[i]? with
    | some o, some s =>
      o.dst == s.dst &&
      (qd_ o).all (fun p => s.anc.contains p && (match sps[p]? with | some q => q.anc.all s.anc.contains | none => false)) &&
      s.anc.all (fun a => Nat.blt a i && (qd_ o).any (fun p => p == a || (match sps[p]? with | some q => q.anc.contains a | none => false))) &&
      s.deps.all (fun d => d == i || s.anc.contains d) &&
      s.cons.all (fun t => match tks[t]? with | some k => k.cons == some i | none => false) &&
      s.prod.all (fun t => match tks[t]? with | some k => k.prod == some i | none => false) &&
      s.rd.all (fun t => match tks[t]? with
        | some k => (match k.prod with | some p => s.anc.contains p | none => true) && (match k.cons with | some c => (match sps[c]? with | some q => q.anc.contains i | none => false) | none => true)
        | none => false) &&
      (List.range sps.length).all (fun j => j == i || (match sps[j]? with | some q => !(s.dst.isSome && q.dst == s.dst) | none => true)) &&
      decide s.cons.Nodup && decide s.prod.Nodup && decide s.rd.Nodup
    | _, _ => false) &&
  (List.range tks.length).all (fun t => match tks[t]? with
    | some k =>
      (match k.prod with | some p => (match sps[p]? with | some q => q.prod.contains t && k.deps.all (fun d => d == p || q.anc.contains d) | none => false) | none => k.deps.isEmpty) &&
      (match k.cons with | some c => (match sps[c]? with | some q => q.cons.contains t && (match k.prod with | some p => q.anc.contains p | none => true) | none => false) | none => true)
    | none => false)
def iv_ (tks : List Tok) (done : Nat → Bool) : List Nat :=
  (List.range tks.length).filter fun t => match tks[t]? with
    | some k => (match k.prod with | some p => done p | none => true) && !(match k.cons with | some c => done c | none => false)
    | none => false
theorem yj_ {P : Program} {ops : Array Oper} {Q : Exit → Act → World → Prop} (I : Array Bool → Act → World → Prop)
    (hstep : ∀ listed a w i, listed.size = ops.size → I listed a w → i ∈ Region.ready .any ops listed → wpOpIn (FW ro) 0 P ops Q i (I (listed.setIfInBounds i true)) a w)
    (hend : ∀ listed a w, listed.size = ops.size → I listed a w → Region.ready .any ops listed = [] → Q .normal a w) :
    ∀ fuel listed a w, listed.size = ops.size → (List.range ops.size).countP (fun i => !listed.getD i true) ≤ fuel → I listed a w → wpAnyIn (FW ro) 0 P .any ops Q fuel listed a w
  | 0, listed, a, w, hsz, hc, hI => by
    have hr : Region.ready .any ops listed = [] := by
      unfold Region.ready
      rw [List.filter_eq_nil_iff]
      intro i hi
      have := List.countP_eq_zero.1 (Nat.le_zero.1 hc) i hi
      intro hh
      simp only [Bool.and_eq_true] at hh
      exact this hh.1
    exact ⟨hr, hend _ _ _ hsz hI hr⟩
  | fuel + 1, listed, a, w, hsz, hc, hI => by
    refine ⟨fun hr => hend _ _ _ hsz hI hr, fun i hi => ?_⟩
    refine wpOpIn_mono (fun a' w' hI' => ?_) (hstep listed a w i hsz hI hi)
    refine yj_ I hstep hend fuel _ a' w' (by simpa using hsz) ?_ hI'
    have hm := List.mem_filter.1 hi
    have hir : i < ops.size := by simpa using hm.1
    have hun : listed.getD i true = false := by have := hm.2; simp only [Bool.and_eq_true] at this; simpa using this.1
    have key : (List.range ops.size).countP (fun k => !(listed.setIfInBounds i true).getD k true) < (List.range ops.size).countP (fun k => !listed.getD k true) := by
      have gen : ∀ (l : List Nat), l.Nodup → i ∈ l → l.countP (fun k => !(listed.setIfInBounds i true).getD k true) < l.countP (fun k => !listed.getD k true) := by
        intro l
        induction l with
        | nil => intro _ h; simp at h
        | cons x l ih =>
          intro hn hx
          have hset : ∀ k, k ≠ i → (listed.setIfInBounds i true).getD k true = listed.getD k true := fun k hk => by
            simp [Array.getD_eq_getD_getElem?, Array.getElem?_setIfInBounds_ne (Ne.symm hk)]
          have hsame : (listed.setIfInBounds i true).getD i true = true := by
            simp [Array.getD_eq_getD_getElem?, Array.getElem?_setIfInBounds, hsz, hir]
          rw [List.countP_cons, List.countP_cons]
          by_cases hxi : x = i
          · subst hxi
            have hnot : x ∉ l := (List.nodup_cons.1 hn).1
            have : l.countP (fun k => !(listed.setIfInBounds x true).getD k true) = l.countP (fun k => !listed.getD k true) := by
              apply List.countP_congr
              intro k hk
              rw [hset k (fun e => hnot (e ▸ hk))]
            rw [this]
            simp [hsame, hun]
          · have := ih (List.nodup_cons.1 hn).2 (by rcases List.mem_cons.1 hx with h | h; exact absurd h.symm hxi; exact h)
            rw [hset x hxi]
            omega
      exact gen _ List.nodup_range (by simpa using hir)
    omega
structure TabOk (ops : List Oper) (sps : List Sp) (tks : List Tok) : Prop where
  len : ops.length = sps.length
  dst : ∀ {i : Nat} {o : Oper} {s : Sp}, ops[i]? = some o → sps[i]? = some s → o.dst = s.dst
  preds : ∀ {i : Nat} {o : Oper} {s : Sp} {p : Nat}, ops[i]? = some o → sps[i]? = some s → p ∈ qd_ o → p ∈ s.anc
  anc : ∀ {i : Nat} {o : Oper} {s : Sp} {a : Nat}, ops[i]? = some o → sps[i]? = some s → a ∈ s.anc → a < i ∧ ∃ p ∈ qd_ o, p = a ∨ ∃ q, sps[p]? = some q ∧ a ∈ q.anc
  deps : ∀ {i : Nat} {s : Sp} {d : Nat}, sps[i]? = some s → d ∈ s.deps → d = i ∨ d ∈ s.anc
  cons : ∀ {i : Nat} {s : Sp} {t : Nat}, sps[i]? = some s → t ∈ s.cons → ∃ k, tks[t]? = some k ∧ k.cons = some i
  prod : ∀ {i : Nat} {s : Sp} {t : Nat}, sps[i]? = some s → t ∈ s.prod → ∃ k, tks[t]? = some k ∧ k.prod = some i
  rd : ∀ {i : Nat} {s : Sp} {t : Nat}, sps[i]? = some s → t ∈ s.rd → ∃ k, tks[t]? = some k ∧ (∀ p, k.prod = some p → p ∈ s.anc) ∧ (∀ c, k.cons = some c → ∃ q, sps[c]? = some q ∧ i ∈ q.anc)
  once : ∀ {i j : Nat} {s q : Sp} {d : Nat}, sps[i]? = some s → sps[j]? = some q → s.dst = some d → q.dst = some d → i = j
  nd1 : ∀ {i : Nat} {s : Sp}, sps[i]? = some s → s.cons.Nodup
  nd2 : ∀ {i : Nat} {s : Sp}, sps[i]? = some s → s.prod.Nodup
  nd3 : ∀ {i : Nat} {s : Sp}, sps[i]? = some s → s.rd.Nodup
  tp : ∀ {t : Nat} {k : Tok} {p : Nat}, tks[t]? = some k → k.prod = some p → ∃ q, sps[p]? = some q ∧ t ∈ q.prod ∧ ∀ d ∈ k.deps, d = p ∨ d ∈ q.anc
  tn : ∀ {t : Nat} {k : Tok}, tks[t]? = some k → k.prod = none → k.deps = []
  tc : ∀ {t : Nat} {k : Tok} {c : Nat}, tks[t]? = some k → k.cons = some c → ∃ q, sps[c]? = some q ∧ t ∈ q.cons ∧ ∀ p, k.prod = some p → p ∈ q.anc
theorem id_ {α : Type} {l : List α} {i : Nat} {x : α} (h : l[i]? = some x) : i < l.length := (List.getElem?_eq_some_iff.1 h).1
theorem TabOk.of {ops : List Oper} {sps : List Sp} {tks : List Tok} (h : zp_ ops sps tks = true) : TabOk ops sps tks := by
  unfold zp_ at h
  rw [Bool.and_eq_true, Bool.and_eq_true] at h
  obtain ⟨⟨h1, h2⟩, h3⟩ := h
  have hlen : ops.length = sps.length := by simpa using h1
  have hop : ∀ {i : Nat} {o : Oper} {s : Sp}, ops[i]? = some o → sps[i]? = some s → _ := fun {i o s} ho hs => by
    have := List.all_eq_true.1 h2 i (by simpa using id_ hs)
    rw [ho, hs] at this
    simp only [Bool.and_eq_true, List.all_eq_true, decide_eq_true_eq] at this
    exact this
  have hsp : ∀ {i : Nat} {s : Sp}, sps[i]? = some s → ∃ o, ops[i]? = some o := fun {i s} hs => by
    have := id_ hs
    exact ⟨ops[i]'(by omega), List.getElem?_eq_getElem (by omega)⟩
  have htk : ∀ {t : Nat} {k : Tok}, tks[t]? = some k → _ := fun {t k} hk => by
    have := List.all_eq_true.1 h3 t (by simpa using id_ hk)
    rw [hk] at this
    simp only [Bool.and_eq_true] at this
    exact this
  refine ⟨hlen, ?_, ?_, ?_, ?_, ?_, ?_, ?_, ?_, ?_, ?_, ?_, ?_, ?_, ?_⟩
  · intro i o s ho hs
    have := (hop ho hs).1.1.1.1.1.1.1.1.1.1
    simpa using this
  · intro i o s p ho hs hp
    have := (hop ho hs).1.1.1.1.1.1.1.1.1.2 p hp
    simpa using this.1
  · intro i o s a ho hs ha
    have := (hop ho hs).1.1.1.1.1.1.1.1.2 a ha
    refine ⟨by have := this.1; have := Nat.le_of_ble_eq_true this; omega, ?_⟩
    obtain ⟨p, hp, hq⟩ := List.any_eq_true.1 this.2
    refine ⟨p, hp, ?_⟩
    rw [Bool.or_eq_true] at hq
    rcases hq with hq | hq
    · exact .inl (by simpa using hq)
    · cases hsp' : sps[p]? with
      | none => rw [hsp'] at hq; cases hq
      | some q => rw [hsp'] at hq; exact .inr ⟨q, rfl, by simpa using hq⟩
  · intro i s d hs hd
    obtain ⟨o, ho⟩ := hsp hs
    have := (hop ho hs).1.1.1.1.1.1.1.2 d hd
    simpa using this
  · intro i s t hs ht
    obtain ⟨o, ho⟩ := hsp hs
    have := (hop ho hs).1.1.1.1.1.1.2 t ht
    cases hk : tks[t]? with
    | none => rw [hk] at this; cases this
    | some k => rw [hk] at this; exact ⟨k, rfl, by simpa using this⟩
  · intro i s t hs ht
    obtain ⟨o, ho⟩ := hsp hs
    have := (hop ho hs).1.1.1.1.1.2 t ht
    cases hk : tks[t]? with
    | none => rw [hk] at this; cases this
    | some k => rw [hk] at this; exact ⟨k, rfl, by simpa using this⟩
  · intro i s t hs ht
    obtain ⟨o, ho⟩ := hsp hs
    have := (hop ho hs).1.1.1.1.2 t ht
    cases hk : tks[t]? with
    | none => rw [hk] at this; cases this
    | some k =>
      rw [hk] at this
      simp only [Bool.and_eq_true] at this
      refine ⟨k, rfl, fun p hp => ?_, fun c hc => ?_⟩
      · have := this.1; rw [hp] at this; simpa using this
      · have := this.2
        rw [hc] at this
        simp only at this
        cases hq : sps[c]? with
        | none => rw [hq] at this; cases this
        | some q => rw [hq] at this; exact ⟨q, rfl, by simpa using this⟩
  · intro i j s q d hs hq hd hd'
    obtain ⟨o, ho⟩ := hsp hs
    have := (hop ho hs).1.1.1.2 j (by simpa using id_ hq)
    rw [hq] at this
    simp only [Bool.or_eq_true, beq_iff_eq] at this
    rcases this with h | h
    · exact h.symm
    · rw [hd, hd'] at h; simp at h
  · intro i s hs
    obtain ⟨o, ho⟩ := hsp hs
    exact (hop ho hs).1.1.2
  · intro i s hs
    obtain ⟨o, ho⟩ := hsp hs
    exact (hop ho hs).1.2
  · intro i s hs
    obtain ⟨o, ho⟩ := hsp hs
    exact (hop ho hs).2
  · intro t k p hk hp
    have := (htk hk).1
    rw [hp] at this
    simp only at this
    cases hq : sps[p]? with
    | none => rw [hq] at this; cases this
    | some q =>
      rw [hq] at this
      simp only [Bool.and_eq_true, List.all_eq_true, Bool.or_eq_true, beq_iff_eq, List.contains_iff_mem] at this
      exact ⟨q, rfl, this.1, this.2⟩
  · intro t k hk hp
    have := (htk hk).1
    rw [hp] at this
    simpa using this
  · intro t k c hk hc
    have := (htk hk).2
    rw [hc] at this
    simp only at this
    cases hq : sps[c]? with
    | none => rw [hq] at this; cases this
    | some q =>
      rw [hq] at this
      simp only [Bool.and_eq_true, List.contains_iff_mem] at this
      refine ⟨q, rfl, this.1, fun p hp => ?_⟩
      have := this.2
      rw [hp] at this
      simpa using this
theorem oh_ {α : Type} {l : List α} (h : l.Nodup) (p : α → Bool) : (l.filter p).Nodup := h.sublist List.filter_sublist
theorem pb_ {tks : List Tok} {done : Nat → Bool} {t : Nat} : t ∈ iv_ tks done ↔ ∃ k, tks[t]? = some k ∧ (∀ p, k.prod = some p → done p = true) ∧ (∀ c, k.cons = some c → done c = false) := by
  unfold iv_
  rw [List.mem_filter]
  constructor
  · rintro ⟨h1, h2⟩
    cases hk : tks[t]? with
    | none => rw [hk] at h2; cases h2
    | some k =>
      rw [hk] at h2
      simp only [Bool.and_eq_true] at h2
      refine ⟨k, rfl, fun p hp => ?_, fun c hc => ?_⟩
      · have := h2.1; rw [hp] at this; exact this
      · have := h2.2; rw [hc] at this; simpa using this
  · rintro ⟨k, hk, hp, hc⟩
    refine ⟨by simpa using id_ hk, ?_⟩
    rw [hk]
    simp only [Bool.and_eq_true]
    refine ⟨?_, ?_⟩
    · cases h : k.prod with
      | none => rfl
      | some p => exact hp p h
    · cases h : k.cons with
      | none => rfl
      | some c => simp [hc c h]
theorem bj_ {P : Program} {n : Nat} {N R : Fr → World → Prop} {X : Nat → Fr → World → Prop} {f : Fr} {w : World} {S : PH} {O : List HP} {id : Nat} {l : List Oper} {sps : List Sp} {tks : List Tok}
    (hm : P.follows .mixedOrders = true) (htab : zp_ l sps tks = true) (hI : Inv w S ((iv_ tks (fun _ => false)).map (jt_ tks (fun _ => undef)) ++ O))
    (hobs : Obs P n ro l.toArray sps tks f S 0 sps)
    (kont : ∀ (vals : Nat → Value) f' w' S', f'.ds = f.ds → S.Le S' → AllP (List.range sps.length) (fun j => ∀ t, sps[j]? = some t → (∀ d, t.dst = some d → f' d = vals j) ∧ t.fact (t.deps.map vals) S') →
      (∀ d, (∀ (j : Nat) (t : Sp), sps[j]? = some t → t.dst ≠ some d) → f' d = f d) → Inv w' S' ((iv_ tks (fun _ => true)).map (jt_ tks vals) ++ O) → N f' w') :
    WP P n ro (.region id l.toArray true) N R X f w := by
  have T := TabOk.of htab
  intro a ha
  refine wpIn_region_any hm ?_
  let don : Array Bool → Nat → Bool := fun listed i => listed.getD i false
  refine yj_ (fun listed a w => ∃ (vals : Nat → Value) (f' : Fr) (S' : PH), Fits n a f' ∧ f'.ds = f.ds ∧ S.Le S' ∧
      (∀ i s, sps[i]? = some s → don listed i = true → (∀ j ∈ s.anc, don listed j = true) ∧ (∀ d, s.dst = some d → f' d = vals i) ∧ s.fact (s.deps.map vals) S') ∧
      (∀ d, (∀ (j : Nat) (t : Sp), sps[j]? = some t → t.dst = some d → don listed j = false) → f' d = f d) ∧
      Inv w S' ((iv_ tks (don listed)).map (jt_ tks vals) ++ O)) ?_ ?_ _ _ _ _ (by simp) (Nat.le_trans List.countP_le_length (by simp)) ?_
  · rintro listed a w i hsz ⟨vals, f', S', hfit, hds, hle, hdone, hkeep, hInv⟩ hi
    have hm' := List.mem_filter.1 hi
    have hir : i < l.length := by simpa using hm'.1
    have h2 := hm'.2
    rw [Bool.and_eq_true] at h2
    have hun : don listed i = false := by
      have := h2.1
      have hlt : i < listed.size := by rw [hsz]; simpa using hir
      show listed.getD i false = false
      simpa [Array.getD_eq_getD_getElem?, Array.getElem?_eq_getElem hlt] using this
    have ho : l[i]? = some (l[i]'hir) := List.getElem?_eq_getElem hir
    have hs : sps[i]? = some (sps[i]'(by rw [← T.len]; exact hir)) := List.getElem?_eq_getElem _
    generalize l[i]'hir = o at ho
    generalize sps[i]'(by rw [← T.len]; exact hir) = s at hs
    have hpre : ∀ p ∈ qd_ o, don listed p = true := by
      intro p hp
      have := h2.2
      simp only [List.getElem?_toArray, ho, Option.map_some, Option.getD_some] at this
      unfold qd_ at hp
      obtain ⟨e, he, rfl⟩ := List.mem_map.1 hp
      obtain ⟨he1, he2⟩ := List.mem_filter.1 he
      rw [Array.all_eq_true'] at this
      have := this e (by simpa using he1)
      rw [he2] at this
      show listed.getD e.on false = true
      simpa [Array.getD_eq_getD_getElem?] using this
    have hanc : ∀ j ∈ s.anc, don listed j = true := by
      intro j hj
      obtain ⟨_, p, hp, hq⟩ := T.anc ho hs hj
      rcases hq with rfl | ⟨q, hq, hjq⟩
      · exact hpre _ hp
      · exact (hdone p q hq (hpre p hp)).1 j hjq
    have hnd : (iv_ tks (don listed)).Nodup := oh_ List.nodup_range _
    have hcl : ∀ t ∈ s.cons, t ∈ iv_ tks (don listed) := by
      intro t ht
      obtain ⟨k, hk, hkc⟩ := T.cons hs ht
      refine pb_.2 ⟨k, hk, fun p hp => ?_, fun c hc => ?_⟩
      · obtain ⟨q, hq, _, hpa⟩ := T.tc hk hkc
        rw [hs] at hq
        obtain rfl := Option.some.inj hq
        exact hanc p (hpa p hp)
      · rw [hkc] at hc; obtain rfl := Option.some.inj hc; exact hun
    have hrl : ∀ t ∈ s.rd, t ∈ iv_ tks (don listed) := by
      intro t ht
      obtain ⟨k, hk, hp, hc⟩ := T.rd hs ht
      refine pb_.2 ⟨k, hk, fun p hpp => hanc p (hp p hpp), fun c hcc => ?_⟩
      obtain ⟨q, hq, hiq⟩ := hc c hcc
      cases hd : don listed c with
      | false => rfl
      | true => have := (hdone c q hq hd).1 i hiq; rw [hun] at this; cases this
    have hdisj : ∀ t ∈ s.cons, t ∉ s.rd := by
      intro t ht ht'
      obtain ⟨k, hk, hkc⟩ := T.cons hs ht
      obtain ⟨k', hk', _, hc⟩ := T.rd hs ht'
      rw [hk] at hk'
      obtain rfl := Option.some.inj hk'
      obtain ⟨q, hq, hiq⟩ := hc i hkc
      rw [hs] at hq
      obtain rfl := Option.some.inj hq
      exact absurd (T.anc ho hs hiq).1 (Nat.lt_irrefl _)
    let rest := (iv_ tks (don listed)).filter (fun t => !s.cons.contains t && !s.rd.contains t)
    have hperm : (iv_ tks (don listed)).Perm (s.cons ++ (s.rd ++ rest)) := by
      refine (List.perm_ext_iff_of_nodup hnd ?_).2 fun t => ?_
      · rw [List.nodup_append, List.nodup_append]
        refine ⟨T.nd1 hs, ⟨T.nd3 hs, oh_ hnd _, ?_⟩, ?_⟩
        · rintro a ha b hb rfl
          have := (List.mem_filter.1 hb).2
          simp [ha] at this
        · rintro a ha b hb rfl
          rcases List.mem_append.1 hb with hb | hb
          · exact hdisj a ha hb
          · have := (List.mem_filter.1 hb).2
            simp [ha] at this
      · constructor
        · intro ht
          by_cases h1 : t ∈ s.cons
          · exact List.mem_append.2 (.inl h1)
          · by_cases h2 : t ∈ s.rd
            · exact List.mem_append.2 (.inr (List.mem_append.2 (.inl h2)))
            · exact List.mem_append.2 (.inr (List.mem_append.2 (.inr (List.mem_filter.2 ⟨ht, by simp [h1, h2]⟩))))
        · intro ht
          rcases List.mem_append.1 ht with h | h
          · exact hcl t h
          · rcases List.mem_append.1 h with h | h
            · exact hrl t h
            · exact (List.mem_filter.1 h).1
    have hI1 : Inv w S' (s.cons.map (jt_ tks vals) ++ (s.rd.map (jt_ tks vals) ++ (rest.map (jt_ tks vals) ++ O))) := by
      refine hInv.perm ?_
      have := (hperm.map (jt_ tks vals)).append_right O
      simpa [List.map_append, List.append_assoc] using this
    have hob := Obs.at_ hobs hs
    rw [Nat.zero_add] at hob
    have hres := hob vals f' w S' (rest.map (jt_ tks vals) ++ O) hle
      (AllP.of fun j hj t ht => ⟨(hdone j t ht (hanc j hj)).2.1, (hdone j t ht (hanc j hj)).2.2⟩)
      (fun d hd => hkeep d fun j t ht htd => by
        rcases hd j t ht htd with h | h
        · cases hdj : don listed j with
          | false => rfl
          | true => have := (hdone j t ht hdj).1 i h; rw [hun] at this; cases this
        · rw [← h]; exact hun) hI1 a hfit (Ends n N R X)
    refine wpOpIn_mono ?_ hres
    rintro a' w' ⟨f'', hfit', v, S'', rfl, hle', hfact, hInv'⟩
    have hset : ∀ j, don (listed.setIfInBounds i true) j = (j == i || don listed j) := by
      intro j
      show (listed.setIfInBounds i true).getD j false = (j == i || listed.getD j false)
      have hlt : i < listed.size := by rw [hsz]; simpa using hir
      by_cases hj : j = i
      · subst hj
        simp [Array.getD_eq_getD_getElem?, Array.getElem?_setIfInBounds, hlt]
      · simp [Array.getD_eq_getD_getElem?, Array.getElem?_setIfInBounds_ne (Ne.symm hj), hj]
    have hval : ∀ (ds : List Nat), (∀ d ∈ ds, d ≠ i) → ds.map (upv vals i v) = ds.map vals := by
      intro ds hds
      exact List.map_congr_left fun d hd => upv_ne _ _ _ (hds d hd)
    refine ⟨upv vals i v, updO f' s.dst v, S'', hfit', (by cases s.dst <;> exact hds), hle.trans hle', ?_, ?_, ?_⟩
    · intro j t ht hdj
      rw [hset] at hdj
      by_cases hji : j = i
      · subst hji
        rw [hs] at ht
        obtain rfl := Option.some.inj ht
        refine ⟨fun k hk => by rw [hset, hanc k hk]; simp, fun d hd => ?_, hfact⟩
        rw [hd]
        show upd f' d v d = upv vals j v j
        rw [upd_same, upv_same]
      · have hdj' : don listed j = true := by simpa [hji] using hdj
        obtain ⟨h1, h2, h3⟩ := hdone j t ht hdj'
        have hne : ∀ k ∈ t.anc, k ≠ i := fun k hk e => by have := h1 k hk; rw [e, hun] at this; cases this
        refine ⟨fun k hk => by rw [hset, h1 k hk]; simp, fun d hd => ?_, ?_⟩
        · rw [upv_ne _ _ _ hji, ← h2 d hd]
          cases hsd : s.dst with
          | none => rfl
          | some d' =>
            show upd f' d' v d = f' d
            refine upd_ne _ _ _ fun e => ?_
            subst e
            exact hji (T.once ht hs hd hsd)
        · rw [hval t.deps (fun d hd => by
            rcases T.deps ht hd with rfl | h
            · exact hji
            · exact hne d h)]
          exact t.mono hle' h3
    · intro d hd
      cases hsd : s.dst with
      | none =>
        show f' d = f d
        refine hkeep d fun j t ht htd => ?_
        have := hd j t ht htd
        rw [hset] at this
        exact (Bool.or_eq_false_iff.1 this).2
      | some d' =>
        show upd f' d' v d = f d
        have hne : d ≠ d' := by
          rintro rfl
          have := hd i s hs hsd
          rw [hset] at this
          simp at this
        rw [upd_ne _ _ _ hne]
        refine hkeep d fun j t ht htd => ?_
        have := hd j t ht htd
        rw [hset] at this
        exact (Bool.or_eq_false_iff.1 this).2
    · -- the tokens behind
      have hrest : (s.rd ++ rest).map (jt_ tks vals) = (s.rd ++ rest).map (jt_ tks (upv vals i v)) := by
        apply List.map_congr_left
        intro t ht
        have htl : t ∈ iv_ tks (don listed) := by
          rcases List.mem_append.1 ht with h | h
          · exact hrl t h
          · exact (List.mem_filter.1 h).1
        obtain ⟨k, hk, hp, _⟩ := pb_.1 htl
        unfold jt_
        have hg : tks.getD t noTok = k := by simp [List.getD, hk]
        rw [hg, hval k.deps]
        intro d hd e
        cases hkp : k.prod with
        | none => rw [T.tn hk hkp] at hd; simp at hd
        | some p =>
          obtain ⟨q, hq, _, hdq⟩ := T.tp hk hkp
          have hpd := hp p hkp
          rcases hdq d hd with rfl | h
          · rw [e, hun] at hpd; cases hpd
          · have := (hdone p q hq hpd).1 d h; rw [e, hun] at this; cases this
      have hnd' : (iv_ tks (don (listed.setIfInBounds i true))).Nodup := oh_ List.nodup_range _
      have hperm' : (s.prod ++ (s.rd ++ rest)).Perm (iv_ tks (don (listed.setIfInBounds i true))) := by
        have hrestm : ∀ t, t ∈ s.rd ++ rest ↔ (t ∈ iv_ tks (don listed) ∧ t ∉ s.cons) := by
          intro t
          constructor
          · intro h
            rcases List.mem_append.1 h with h | h
            · exact ⟨hrl t h, fun h' => hdisj t h' h⟩
            · have := List.mem_filter.1 h
              refine ⟨this.1, ?_⟩
              have := this.2
              simp at this
              exact this.1
          · rintro ⟨h1, h2⟩
            by_cases h3 : t ∈ s.rd
            · exact List.mem_append.2 (.inl h3)
            · exact List.mem_append.2 (.inr (List.mem_filter.2 ⟨h1, by simp [h2, h3]⟩))
        refine (List.perm_ext_iff_of_nodup ?_ hnd').2 fun t => ?_
        · rw [List.nodup_append]
          refine ⟨T.nd2 hs, ?_, ?_⟩
          · have := (hperm.nodup_iff).1 hnd
            exact (List.nodup_append.1 this).2.1
          · rintro a ha b hb rfl
            obtain ⟨k, hk, hkp⟩ := T.prod hs ha
            obtain ⟨k', hk', hp, _⟩ := pb_.1 ((hrestm a).1 hb).1
            rw [hk] at hk'
            obtain rfl := Option.some.inj hk'
            have := hp i hkp
            rw [hun] at this
            cases this
        · rw [List.mem_append, hrestm, pb_, pb_]
          constructor
          · rintro (h | ⟨⟨k, hk, hp, hc⟩, hnc⟩)
            · obtain ⟨k, hk, hkp⟩ := T.prod hs h
              refine ⟨k, hk, fun p hp => ?_, fun c hc => ?_⟩
              · rw [hkp] at hp; obtain rfl := Option.some.inj hp; rw [hset]; simp
              · obtain ⟨q, hq, _, hpa⟩ := T.tc hk hc
                have hiq := hpa i hkp
                rw [hset]
                have hci : c ≠ i := by
                  rintro rfl
                  rw [hs] at hq
                  obtain rfl := Option.some.inj hq
                  exact absurd (T.anc ho hs hiq).1 (Nat.lt_irrefl _)
                cases hdc : don listed c with
                | false => simp [hci]
                | true => have := (hdone c q hq hdc).1 i hiq; rw [hun] at this; cases this
            · refine ⟨k, hk, fun p hpp => by rw [hset, hp p hpp]; simp, fun c hcc => ?_⟩
              rw [hset]
              have hci : c ≠ i := by
                rintro rfl
                obtain ⟨q, hq, htq, _⟩ := T.tc hk hcc
                rw [hs] at hq
                obtain rfl := Option.some.inj hq
                exact hnc htq
              simp [hci, hc c hcc]
          · rintro ⟨k, hk, hp, hc⟩
            by_cases hkp : k.prod = some i
            · obtain ⟨q, hq, htq, _⟩ := T.tp hk hkp
              rw [hs] at hq
              obtain rfl := Option.some.inj hq
              exact .inl htq
            · refine .inr ⟨⟨k, hk, fun p hpp => ?_, fun c hcc => ?_⟩, fun h => ?_⟩
              · have := hp p hpp
                rw [hset] at this
                have hpi : p ≠ i := by rintro rfl; exact hkp hpp
                simpa [hpi] using this
              · have := hc c hcc
                rw [hset] at this
                exact (Bool.or_eq_false_iff.1 this).2
              · obtain ⟨k', hk', hkc⟩ := T.cons hs h
                rw [hk] at hk'
                obtain rfl := Option.some.inj hk'
                have := hc i hkc
                rw [hset] at this
                simp at this
      refine hInv'.perm ?_
      have e1 : s.rd.map (jt_ tks vals) ++ (rest.map (jt_ tks vals) ++ O) = (s.rd ++ rest).map (jt_ tks (upv vals i v)) ++ O := by
        rw [← hrest, List.map_append, List.append_assoc]
      rw [e1, ← List.append_assoc, ← List.map_append]
      exact (hperm'.map _).append_right O
  · rintro listed a w hsz ⟨vals, f', S', hfit, hds, hle, hdone, hkeep, hInv⟩ hnil
    have hall : ∀ i, i < sps.length → don listed i = true := by
      intro i
      induction i using Nat.strongRecOn with
      | _ i ih =>
        intro hi
        cases hd : don listed i with
        | true => rfl
        | false =>
          exfalso
          have hir : i < l.length := by rw [T.len]; exact hi
          have ho : l[i]? = some (l[i]'hir) := List.getElem?_eq_getElem hir
          have hs : sps[i]? = some (sps[i]'hi) := List.getElem?_eq_getElem hi
          have hmem : i ∈ Region.ready .any l.toArray listed := by
            unfold Region.ready
            refine List.mem_filter.2 ⟨by simpa using hir, ?_⟩
            rw [Bool.and_eq_true]
            constructor
            · have hlt : i < listed.size := by rw [hsz]; simpa using hir
              have hd' : listed.getD i false = false := hd
              simpa [Array.getD_eq_getD_getElem?, Array.getElem?_eq_getElem hlt] using hd'
            · simp only [List.getElem?_toArray, ho, Option.map_some, Option.getD_some]
              rw [Array.all_eq_true']
              intro e he
              cases hb : Region.binds .any e with
              | false => rfl
              | true =>
                have hp : e.on ∈ qd_ (l[i]'hir) := List.mem_map.2 ⟨e, List.mem_filter.2 ⟨by simpa using he, hb⟩, rfl⟩
                have ha := T.preds ho hs hp
                have hlt := (T.anc ho hs ha).1
                have := ih e.on hlt (by omega)
                have this : listed.getD e.on false = true := this
                simpa [Array.getD_eq_getD_getElem?] using this
          rw [hnil] at hmem
          cases hmem
    have hlive : (iv_ tks (don listed)) = iv_ tks (fun _ => true) := by
      unfold iv_
      apply List.filter_congr
      intro t ht
      cases hk : tks[t]? with
      | none => rfl
      | some k =>
        simp only
        congr 1
        · cases hp : k.prod with
          | none => rfl
          | some p => obtain ⟨q, hq, _⟩ := T.tp hk hp; exact hall p (id_ hq)
        · cases hc : k.cons with
          | none => rfl
          | some c => obtain ⟨q, hq, _⟩ := T.tc hk hc; simp only [hall c (id_ hq)]
    rw [hlive] at hInv
    refine ⟨f', hfit, kont vals f' w S' hds hle (AllP.of fun j hj t ht => ?_) (fun d hd => hkeep d fun j t ht htd => absurd htd (hd j t ht)) hInv⟩
    have := hdone j t ht (hall j (by simpa using hj))
    exact ⟨this.2.1, this.2.2⟩
  · refine ⟨fun _ => undef, f, S, ha, rfl, PH.Le.refl S, ?_, fun _ _ => rfl, ?_⟩
    · intro i s hs hd
      exfalso
      have : don (Array.replicate l.toArray.size false) i = false := by
        show (Array.replicate l.toArray.size false).getD i false = false
        simp only [Array.getD_eq_getD_getElem?, Array.getElem?_replicate]
        split <;> rfl
      rw [this] at hd
      cases hd
    · have e : iv_ tks (don (Array.replicate l.toArray.size false)) = iv_ tks (fun _ => false) := by
        congr 1
        funext i
        show (Array.replicate l.toArray.size false).getD i false = false
        simp only [Array.getD_eq_getD_getElem?, Array.getElem?_replicate]
        split <;> rfl
      rw [e]
      exact hI.world rfl rfl fun _ _ h => h
end Go.Proofs.YtlpdpeghgndmkaaGreat.Pad
end

section
namespace Go.Proofs.YtlpdpeghgndmkaaGreat.Pad
open Go
variable {ro : Option Nat}
theorem kv_ {α : Type} [Enc α] {S : PH} {cs : List Value} {x : α} (h0 : Enc.agg α = false) (h : Enc.rep S cs x) : ∃ v, cs = [v] ∧ RV S v x := by
  have h1 := Enc.len h
  rw [Enc.one h0] at h1
  match cs, h1 with
  | [c], _ => exact ⟨c, rfl, [c], h, by rw [h0]; rfl⟩
theorem nz_ {α : Type} [Enc α] {S : PH} {v : Value} {x : α} (h0 : Enc.agg α = false) (h : RV S v x) : Enc.rep S [v] x := by
  obtain ⟨cs, hr, rfl⟩ := h
  have h1 := Enc.len hr
  rw [Enc.one h0] at h1
  match cs, h1 with
  | [c], _ => rw [h0]; exact hr
def forS {σ : Type} (body : Nat → σ → Option σ) : Nat → Nat → σ → Option σ
  | 0, _, s => some s
  | k + 1, i, s => match body i s with
    | none => none
    | some s' => forS body k (i + 1) s'
def onL {σ ρ : Type} (o : σ ⊕ ρ) (k : σ → Option ρ) : Option ρ := match o with
  | .inl s => k s
  | .inr r => some r
def cnt? (n : Int) : Option Nat := if n ≤ 4611686018427387904 then some n.toNat else none
theorem vp_ {n : Int} {k : Nat} (h : cnt? n = some k) : n ≤ 4611686018427387904 ∧ k = n.toNat := by
  unfold cnt? at h
  split at h
  · exact ⟨‹_›, (Option.some.inj h).symm⟩
  · cases h
theorem cnt_t {n : Int} {k i : Nat} (h : cnt? n = some k) (hi : i < k) : decide ((i : Int) < n) = true := by
  obtain ⟨_, rfl⟩ := vp_ h
  exact decide_eq_true (by omega)
theorem cnt_f {n : Int} {k : Nat} (h : cnt? n = some k) : decide ((k : Int) < n) = false := by
  obtain ⟨_, rfl⟩ := vp_ h
  exact decide_eq_false (by omega)
theorem zi_ {n : Int} {k : Nat} (h : cnt? n = some k) : k ≤ 9223372036854775807 := by
  obtain ⟨_, rfl⟩ := vp_ h
  omega
theorem eo_ {i k : Nat} (hi : i < k) : decide ((i : Int) < (k : Int)) = true := decide_eq_true (by omega)
theorem ep_ (k : Nat) : decide ((k : Int) < (k : Int)) = false := decide_eq_false (by omega)
theorem cx_ {α : Type} [Enc α] {S : PH} {v : Value} {l : List α} (h : RV S v l) : l.length ≤ 9223372036854775807 := by
  obtain ⟨a, cap, _, h1, h2, _⟩ := kc_ h
  simp only [maxLen] at h2
  omega
theorem uc_ {α : Type} [Enc α] {w : World} {S : PH} {T : TypeId} {v : Value} {l : List α} {O : List HP} (h : Inv w S (Row T v l :: O)) : l.length ≤ 9223372036854775807 := by
  obtain ⟨a, cap, _, h1, h2⟩ := h.rowForm
  simp only [maxLen] at h2
  omega
theorem bh_ {i k : Nat} (h : i < k) (hk : k ≤ 9223372036854775807) : Value.int .i64 (w64 ((i : Int) + 1)) = Value.int .i64 (((i + 1 : Nat)) : Int) := by
  rw [en_ (by omega) (by omega)]
  rfl
section loops
variable {P : Program} {n : Nat} {N R : Fr → World → Prop} {X : Nat → Fr → World → Prop} {f : Fr} {w : World}
theorem zd_ {σ : Type} (body : Nat → σ → Option σ) : ∀ (k i : Nat) (s : σ), forN (ρ := Unit) (fun i s => (body i s).map .inl) k i s = (forS body k i s).map .inl
  | 0, _, _ => rfl
  | k + 1, i, s => by
    unfold forN forS
    cases h : body i s with
    | none => rfl
    | some s' => simp only [Option.map_some]; exact zd_ body k (i + 1) s'
theorem da_ {σ : Type} {c : Code} {body : Nat → σ → Option σ} {k : Nat} {s0 out : σ} (I : Nat → σ → Fr → World → Prop)
    (hrun : forS body k 0 s0 = some out) (h0 : I 0 s0 f w)
    (round : ∀ i s f w o, i < k → I i s f w → body i s = some o → WP P n ro c (fun f' w' => I (i + 1) o f' w') R X f w)
    (last : ∀ f w, I k out f w → WP P n ro c (fun _ _ => False) R X f w) : WP P n ro (.loop c) N R X f w := by
  refine ex_ (ρ := Unit) (body := fun i s => (body i s).map .inl) (out := .inl out) I (by rw [zd_, hrun]; rfl) h0 ?_ ?_
  · intro i s f w o hi hI hb _
    cases hq : body i s with
    | none => rw [hq] at hb; cases hb
    | some s' =>
      rw [hq] at hb
      obtain rfl := Option.some.inj hb
      exact (round i s f w s' hi hI hq).mono (fun _ _ h => ⟨s', rfl, h⟩) (fun _ _ h => h) (fun _ _ _ h => h)
  · intro s f w hs hI
    obtain rfl := Sum.inl.inj hs
    exact last f w hI
end loops
theorem Inv.nth {w : World} {S : PH} : ∀ {O : List HP} {A : HP} (i : Nat), Inv w S O → O[i]? = some A → Inv w S [A]
  | [], _, _, _, h => by simp at h
  | B :: O, A, 0, hI, h => by
    simp at h
    subst h
    obtain ⟨k, hA, hd, hr⟩ := hI.own
    exact ⟨hI.os, hI.out, k, hA, hd, Own.in_ hr⟩
  | B :: O, A, i + 1, hI, h => Inv.nth i hI.drop (by simpa using h)
theorem resC {P : Program} {fn : Func} {n t g : Nat} {T B : TypeId} {f : Fr} {w : World} {S : PH} {O : List HP} {cs : Array Value} (h : fn.results = #[.cell t T]) (hf : f t = .pointer (some ⟨g, 0, none⟩)) (hT : Shape P T true cs.size) (hI : Inv w S (am_ g B cs :: O)) :
    wn_ P fn n f w (.agg cs) := by
  intro a ha
  have h2 := run_loadCells_list (P := P) w ⟨g, 0, none⟩ cs.toList (fun j u hu => by
    rw [hv_, hI.cell]
    simpa using hu)
  simp only [Array.length_toList, Array.toArray_toList] at h2
  have e := ha.at_ t
  rw [hf] at e
  simp only [Array.getD_eq_getD_getElem?] at e
  simp [results, h, e, asAddr, loadVar, hT.agg w, hT.size w, h2]
theorem ac_ {α : Type} [Enc α] {S : PH} {v : Value} {l : List α} (h : RV S v l) : ∃ a n k, v = .slice a n k := by
  obtain ⟨a, k, e, _⟩ := kc_ h
  exact ⟨a, _, k, e⟩
theorem bc_ {α : Type} [Enc α] {w : World} {S : PH} {T : TypeId} {v : Value} {l : List α} {O : List HP} (h : Inv w S (Row T v l :: O)) : ∃ a n k, v = .slice a n k := by
  obtain ⟨a, k, e, _⟩ := h.rowForm
  exact ⟨a, _, k, e⟩
theorem ty_ {x v : Value} {cs : Array Value} (h : x = v) (hc : v.cells = cs) : x.cells = cs := by rw [h, hc]
theorem zo_ {f : Fr} : ((#[] : Array Operand).map (ev f)) = #[] := by simp
theorem parts0 {f : Fr} : (([] : List (Nat × Operand)).map fun p => (p.1, ev f p.2)) = ([] : List Value).zipIdx.map fun p => (p.2, p.1) := rfl
theorem arr1 {f : Fr} {x : Operand} {v : Value} (h : ev f x = v) : (#[x].map (ev f)) = #[v] := by simp [h]
theorem arr2 {f : Fr} {x y : Operand} {v u : Value} (h : ev f x = v) (h2 : ev f y = u) : (#[x, y].map (ev f)) = #[v, u] := by simp [h, h2]
theorem arr3 {f : Fr} {x y z : Operand} {v u t : Value} (h : ev f x = v) (h2 : ev f y = u) (h3 : ev f z = t) : (#[x, y, z].map (ev f)) = #[v, u, t] := by simp [h, h2, h3]
theorem args0 {f : Fr} : ((#[] : Array Operand).map (ev f)) ++ #[] = [].toArray := by simp
theorem em_ {f : Fr} {x : Operand} {v : Value} (h : ev f x = v) : (#[x].map (ev f)) ++ #[] = [v].toArray := by simp [h]
theorem br_ {f : Fr} {x y : Operand} {v u : Value} (h : ev f x = v) (h2 : ev f y = u) : (#[x, y].map (ev f)) ++ #[] = [v, u].toArray := by simp [h, h2]
theorem cf_ {f : Fr} {x y z : Operand} {v u t : Value} (h : ev f x = v) (h2 : ev f y = u) (h3 : ev f z = t) : (#[x, y, z].map (ev f)) ++ #[] = [v, u, t].toArray := by simp [h, h2, h3]
theorem args4 {f : Fr} {x y z a : Operand} {v u t s : Value} (h : ev f x = v) (h2 : ev f y = u) (h3 : ev f z = t) (h4 : ev f a = s) : (#[x, y, z, a].map (ev f)) ++ #[] = [v, u, t, s].toArray := by simp [h, h2, h3, h4]
theorem fc_ {f : Fr} {x : Operand} {v : Value} (h : ev f x = v) : ([(0, x)].map fun p => (p.1, ev f p.2)) = [v].zipIdx.map fun p => (p.2, p.1) := by simp [h]
theorem parts2 {f : Fr} {x y : Operand} {v u : Value} (h : ev f x = v) (h2 : ev f y = u) : ([(0, x), (1, y)].map fun p => (p.1, ev f p.2)) = [v, u].zipIdx.map fun p => (p.2, p.1) := by simp [h, h2]
theorem xk_ {P : Program} {n d : Nat} {f : Fr} {w : World} {K : Fr → World → Prop} {ty T T2 E : TypeId} {pos : String} {af : Array Edge} {gd : Option (Nat × Bool)} {x y : Operand} {a : Option Addr} {l c : Nat}
    (hd : Nat.blt d n = true) (hT : P.underlying T = some (.slice E)) (hx : ev f x = .slice a l c) (hy : ev f y = .slice none 0 0) (k : K (upd f d (.bool a.isNone)) w) : OP P n ro ⟨some d, .binOp .eql T x y T2, ty, pos, af, gd⟩ f w K :=
  dd_ hd (by
    have h : (Op.equal T (.slice a l c) (.slice none 0 0)).run P w = .ok a.isNone w := by
      show (Op.equalIn (9999 + 1) T (.slice a l c) (.slice none 0 0)).run P w = _
      unfold Op.equalIn
      rw [Sem.run_bind, run_underlying hT]
      cases a <;> rfl
    have e : (execOp (ev f) ⟨some d, .binOp .eql T x y T2, ty, pos, af, gd⟩) = (do pure (.value (← (do pure (.bool (← Op.equal T (.slice a l c) (.slice none 0 0))) : Sem Value)))) := by
      simp only [execOp, hx, hy]
      rfl
    rw [e]
    simp only [Sem.run_bind, h, Result.andThen_ok, Sem.run_pure]) k
class Ind (α : Type) [Enc α] : Prop where
  ind : ∀ (S T : PH) (cs : List Value) (x : α), Enc.rep S cs x → Enc.rep T cs x
instance : Ind Int := ⟨fun _ _ _ _ h => h⟩
instance : Ind Bool := ⟨fun _ _ _ _ h => h⟩
instance {α β : Type} [Enc α] [Enc β] [Ind α] [Ind β] : Ind (α × β) := ⟨fun S T cs x h => by
  obtain ⟨a, b, e, h1, h2⟩ := h
  exact ⟨a, b, e, Ind.ind S T a _ h1, Ind.ind S T b _ h2⟩⟩
theorem RepL.ind {α : Type} [Enc α] [Ind α] {S T : PH} : ∀ {l : List α} {cs : List Value}, RepL S cs l → RepL T cs l
  | [], _, h => h
  | _ :: _, _, ⟨es, rest, e, h1, h2⟩ => ⟨es, rest, e, Ind.ind S T es _ h1, RepL.ind h2⟩
theorem Row.free {α : Type} [Enc α] [Ind α] {T : TypeId} {v : Value} {l : List α} : (Row T v l).Free := by
  intro S U h hp
  rcases hp with hp | ⟨g, cap, pre, ls, post, h1, h2, h3, h4⟩
  · exact .inl hp
  · exact .inr ⟨g, cap, pre, ls, post, h1, h2, h3.ind, h4⟩
def cj_ (v : Value) : Nat := match v with
  | .pointer (some a) => a.block
  | _ => 0
def noDst (sps : List Sp) (i d : Nat) : Bool := (List.range sps.length).all fun j => match sps[j]? with
  | some t => !(t.dst == some d) || t.anc.contains i || Nat.beq i j
  | none => true
theorem ag_ {sps : List Sp} {i d : Nat} (h : noDst sps i d = true) : ∀ (j : Nat) (t : Sp), sps[j]? = some t → t.dst = some d → i ∈ t.anc ∨ i = j := by
  intro j t ht hd
  have := List.all_eq_true.1 h j (by simpa using id_ ht)
  rw [ht] at this
  simp only [Bool.or_eq_true, hd] at this
  rcases this with (h | h) | h
  · simp at h
  · exact .inl (by simpa using h)
  · exact .inr (Nat.eq_of_beq_eq_true h)
def noDstAll (sps : List Sp) (d : Nat) : Bool := sps.all fun t => !(t.dst == some d)
theorem al_ {sps : List Sp} {d : Nat} (h : noDstAll sps d = true) : ∀ (j : Nat) (t : Sp), sps[j]? = some t → t.dst ≠ some d := by
  intro j t ht hd
  have := List.all_eq_true.1 h t (List.mem_of_getElem? ht)
  rw [hd] at this
  simp at this
theorem wanted_u {ops : Array Oper} {n : Nat} {f : Fr} {a : Act} (ha : Fits n a f) {o : Oper} {j d : Nat} {b : Bool} (hg : o.guard = some (j, b)) (hj : (ops[j]?).bind (·.dst) = some d) (hd : Nat.blt d n = true) (hv : f d = undef) :
    Region.wanted o (yielded ops a.tmps) = false := by
  have hlt : d < a.tmps.size := by rw [ha.size]; have := Nat.le_of_ble_eq_true hd; omega
  have : a.tmps[d]? = some undef := by
    have := ha.at_ d
    rw [hv, Array.getD_eq_getD_getElem?, Array.getElem?_eq_getElem hlt] at this
    rw [Array.getElem?_eq_getElem hlt]
    simpa using this
  simp [Region.wanted, hg, yielded, hj, this, undef]
theorem fu_ {P : Program} {n : Nat} {ops : Array Oper} {N : Fr → World → Prop} {rest : List Oper} {f : Fr} {w : World} {o : Oper} {j d : Nat} {b : Bool} (hg : o.guard = some (j, b)) (hj : (ops[j]?).bind (·.dst) = some d) (hd : Nat.blt d n = true) (hv : f d = undef) (ho : dstOk n o.dst = true)
    (h : WL P n ro ops N rest (updO f o.dst undef) w) : WL P n ro ops N (o :: rest) f w := by
  intro R X a ha
  unfold wpListIn
  rw [if_neg (by rw [wanted_u ha hg hj hd hv]; simp)]
  exact ⟨fun _ _ => trivial, h R X _ (ha.putO ho undef)⟩
theorem bp_ {P : Program} {n : Nat} {N R : Fr → World → Prop} {X : Nat → Fr → World → Prop} {f : Fr} {w : World} {x : Code} (M : Fr → World → Prop) (h : WP P n ro x M R X f w) (k : ∀ f w, M f w → N f w) : WP P n ro x N R X f w :=
  h.mono k (fun _ _ h => h) (fun _ _ _ h => h)
end Go.Proofs.YtlpdpeghgndmkaaGreat.Pad
end

section
namespace Go.Proofs.YtlpdpeghgndmkaaGreat.Pad
open Go
theorem forS_inv {σ : Type} {body : Nat → σ → Option σ} (I : Nat → σ → Prop) : ∀ (k i : Nat) (s : σ), I i s →
    (∀ j s, i ≤ j → j < i + k → I j s → ∃ s', body j s = some s' ∧ I (j + 1) s') → ∃ s', forS body k i s = some s' ∧ I (i + k) s'
  | 0, i, s, h, _ => ⟨s, rfl, h⟩
  | k + 1, i, s, h, st => by
    obtain ⟨s1, h1, h2⟩ := st i s (Nat.le_refl _) (by omega) h
    obtain ⟨s2, h3, h4⟩ := forS_inv I k (i + 1) s1 h2 (fun j s a b c => st j s (by omega) (by omega) c)
    refine ⟨s2, ?_, by rwa [show i + (k + 1) = i + 1 + k by omega]⟩
    simp only [forS, h1]; exact h3
theorem forN_inv {σ ρ : Type} {body : Nat → σ → Option (σ ⊕ ρ)} (I : Nat → σ → Prop) (E : ρ → Prop) : ∀ (k i : Nat) (s : σ), I i s →
    (∀ j s, i ≤ j → j < i + k → I j s → (∃ s', body j s = some (.inl s') ∧ I (j + 1) s') ∨ ∃ r, body j s = some (.inr r) ∧ E r) →
    (∃ s', forN body k i s = some (.inl s') ∧ I (i + k) s') ∨ ∃ r, forN body k i s = some (.inr r) ∧ E r
  | 0, i, s, h, _ => .inl ⟨s, rfl, h⟩
  | k + 1, i, s, h, st => by
    rcases st i s (Nat.le_refl _) (by omega) h with ⟨s1, h1, h2⟩ | ⟨r, h1, h2⟩
    · have := forN_inv I E k (i + 1) s1 h2 (fun j s a b c => st j s (by omega) (by omega) c)
      rw [show i + (k + 1) = i + 1 + k by omega]
      simpa only [forN, h1] using this
    · exact .inr ⟨r, by simp only [forN, h1], h2⟩
theorem rz_ {σ ρ : Type} {body : σ → Option (σ ⊕ ρ)} {s s' : σ} (h : body s = some (.inl s')) : fo_ body s = fo_ body s' := by
  rw [yl_, h]
theorem mp_ {σ ρ : Type} {body : σ → Option (σ ⊕ ρ)} {s : σ} {r : ρ} (h : body s = some (.inr r)) : fo_ body s = some r := by
  rw [yl_, h]
theorem mo_ {σ ρ : Type} {body : σ → Option (σ ⊕ ρ)} (I : Nat → σ → Prop) (E : ρ → Prop) : ∀ (n i : Nat) (s : σ), I i s →
    (∀ j s, i ≤ j → j < i + n → I j s → (∃ s', body s = some (.inl s') ∧ I (j + 1) s') ∨ ∃ r, body s = some (.inr r) ∧ E r) →
    (∀ s, I (i + n) s → ∃ r, body s = some (.inr r) ∧ E r) → ∃ r, fo_ body s = some r ∧ E r
  | 0, i, s, h, _, e => by
    obtain ⟨r, h1, h2⟩ := e s h
    exact ⟨r, mp_ h1, h2⟩
  | n + 1, i, s, h, st, e => by
    rcases st i s (Nat.le_refl _) (by omega) h with ⟨s1, h1, h2⟩ | ⟨r, h1, h2⟩
    · rw [rz_ h1]
      exact mo_ I E n (i + 1) s1 h2 (fun j s a b c => st j s (by omega) (by omega) c) (fun s hs => e s (by rwa [show i + (n + 1) = i + 1 + n by omega]))
    · exact ⟨r, mp_ h1, h2⟩
theorem at?_lt {α : Type} {l : List α} {i : Nat} (h : i < l.length) : at? l (i : Int) = some l[i] := by
  rw [qp_, List.getElem?_eq_getElem h]
theorem oy_ {α : Type} {l : List α} {i : Int} (h0 : 0 ≤ i) (h : i < l.length) : ∃ x, at? l i = some x ∧ l[i.toNat]? = some x := by
  have h1 : i.toNat < l.length := by omega
  refine ⟨l[i.toNat], ?_, List.getElem?_eq_getElem h1⟩
  unfold at?; rw [if_pos h0, List.getElem?_eq_getElem h1]
theorem ew_ {α : Type} {l : List α} {i : Int} {x : α} (h0 : 0 ≤ i) (h : l[i.toNat]? = some x) : at? l i = some x := by
  unfold at?; rw [if_pos h0, h]
theorem ce_ {α : Type} {l m : List α} (h : l.length + m.length ≤ 2147483648) : push? l m = some (l ++ m) := by
  unfold push?; rw [if_pos h]
theorem ux_ {α : Type} {k : Int} {z : α} (h : 0 ≤ k) (h' : k ≤ 2147483648) : mk? k z = some (List.replicate k.toNat z) := by
  unfold mk?; rw [if_pos ⟨h, h'⟩]
theorem ye_ {n : Int} (h : n ≤ 4611686018427387904) : cnt? n = some n.toNat := by
  unfold cnt?; rw [if_pos h]
theorem md_pos {a b : Int} (h : b ≠ 0) : md a b = some (a.tmod b) := by
  unfold md; rw [if_neg h]
def Tot {α : Type} (x : Option α) (P : α → Prop) : Prop := ∃ a, x = some a ∧ P a
namespace Tot
theorem pure {α : Type} {a : α} {P : α → Prop} (h : P a) : Tot (some a) P := ⟨a, rfl, h⟩
theorem bind {α β : Type} {x : Option α} {f : α → Option β} {Q : β → Prop} (P : α → Prop) (h : Tot x P) (k : ∀ a, P a → Tot (f a) Q) : Tot (x.bind f) Q := by
  obtain ⟨a, rfl, h⟩ := h
  exact k a h
theorem eq {α β : Type} {x : Option α} {a : α} {f : α → Option β} {Q : β → Prop} (h : x = some a) (k : Tot (f a) Q) : Tot (x.bind f) Q := by
  subst h; exact k
theorem ite {α : Type} {c : Prop} [Decidable c] {x y : Option α} {P : α → Prop} (h : c → Tot x P) (h' : ¬c → Tot y P) : Tot (if c then x else y) P := by
  by_cases hc : c
  · rw [if_pos hc]; exact h hc
  · rw [if_neg hc]; exact h' hc
theorem mono {α : Type} {x : Option α} {P Q : α → Prop} (h : Tot x P) (k : ∀ a, P a → Q a) : Tot x Q := by
  obtain ⟨a, h1, h2⟩ := h
  exact ⟨a, h1, k a h2⟩
theorem forS {σ : Type} {body : Nat → σ → Option σ} {k : Nat} {s : σ} (I : Nat → σ → Prop) (h : I 0 s) (st : ∀ j s, j < k → I j s → Tot (body j s) (I (j + 1))) : Tot (Go.Proofs.YtlpdpeghgndmkaaGreat.Pad.forS body k 0 s) (I k) := by
  have := forS_inv I k 0 s h (fun j s _ b c => st j s (by omega) c)
  rwa [Nat.zero_add] at this
theorem forN {σ ρ : Type} {body : Nat → σ → Option (σ ⊕ ρ)} {k : Nat} {s : σ} (I : Nat → σ → Prop) (E : ρ → Prop) (h : I 0 s)
    (st : ∀ j s, j < k → I j s → Tot (body j s) (Sum.elim (I (j + 1)) E)) : Tot (Go.Proofs.YtlpdpeghgndmkaaGreat.Pad.forN body k 0 s) (Sum.elim (I k) E) := by
  have := forN_inv I E k 0 s h (fun j s _ b c => by
    obtain ⟨o, h1, h2⟩ := st j s (by omega) c
    cases o with
    | inl s' => exact .inl ⟨s', h1, h2⟩
    | inr r => exact .inr ⟨r, h1, h2⟩)
  rw [Nat.zero_add] at this
  rcases this with ⟨s', h1, h2⟩ | ⟨r, h1, h2⟩
  · exact ⟨_, h1, h2⟩
  · exact ⟨_, h1, h2⟩
theorem onL {σ ρ : Type} {o : σ ⊕ ρ} {k : σ → Option ρ} {I : σ → Prop} {E : ρ → Prop} {Q : ρ → Prop} (h : Sum.elim I E o) (a : ∀ s, I s → Tot (k s) Q) (b : ∀ r, E r → Q r) : Tot (Go.Proofs.YtlpdpeghgndmkaaGreat.Pad.onL o k) Q := by
  cases o with
  | inl s => exact a s h
  | inr r => exact ⟨r, rfl, b r h⟩
theorem at_ {α : Type} {l : List α} {i : Int} (h0 : 0 ≤ i) (h : i < l.length) : Tot (at? l i) (fun x => l[i.toNat]? = some x) := oy_ h0 h
theorem atN {α : Type} {l : List α} {i : Nat} (h : i < l.length) : Tot (at? l (i : Int)) (fun x => l[i]? = some x) :=
  ⟨l[i], at?_lt h, List.getElem?_eq_getElem h⟩
end Tot
end Go.Proofs.YtlpdpeghgndmkaaGreat.Pad
end

section
namespace Go.Proofs.YtlpdpeghgndmkaaGreat.Pad
open Go
variable {ro : Option Nat}
def sub? {α : Type} (l : List α) (lo hi : Int) : Option (List α) := if 0 ≤ lo ∧ lo ≤ hi ∧ hi ≤ l.length then some ((l.take hi.toNat).drop lo.toNat) else none
theorem qu_ {α : Type} {l l' : List α} {lo hi : Int} (h : sub? l lo hi = some l') : 0 ≤ lo ∧ lo ≤ hi ∧ hi ≤ l.length ∧ l' = (l.take hi.toNat).drop lo.toNat := by
  unfold sub? at h
  split at h
  · rename_i hc
    exact ⟨hc.1, hc.2.1, hc.2.2, (Option.some.inj h).symm⟩
  · cases h
theorem op_sliceLH {α : Type} [Enc α] {P : Program} {n d : Nat} {f : Fr} {w : World} {K : Fr → World → Prop} {ty : TypeId} {pos : String} {af : Array Edge} {gd : Option (Nat × Bool)} {x y z : Operand} {S : PH} {T E : TypeId} {v : Value} {l l' : List α} {lo hi : Int}
    (hd : Nat.blt d n = true) (hT : P.underlying T = some (.slice E)) (hE : Shape P E (Enc.agg α) (Enc.sz α)) (hx : ev f x = v) (hr : RV S v l) (hy : ev f y = .int .i64 lo) (hz : ev f z = .int .i64 hi)
    (he : sub? l lo hi = some l') (k : ∀ u, RV S u l' → K (upd f d u) w) : OP P n ro ⟨some d, .slice T x (some y) (some z) none, ty, pos, af, gd⟩ f w K := by
  obtain ⟨a, cap, rfl, hl, hm, hn, hrow⟩ := kc_ hr
  obtain ⟨h0, h1, h2, rfl⟩ := qu_ he
  have hel : P.elem T = E := by simp [Program.elem, hT]
  have hT' : P.underlying T = some (.slice (P.elem T)) := by rw [hel]; exact hT
  have hlen : ((l.take hi.toNat).drop lo.toNat).length = hi.toNat - lo.toNat := by
    rw [List.length_drop, List.length_take]; omega
  refine dd_ (v := sliced a lo.toNat hi.toNat cap (Enc.sz α)) (w' := w) hd ?_ (k _ ?_)
  · simp only [execOp, hx, hy, hz, Option.map_some, Option.map_none]
    have := run_slice_lh (P := P) w T a l.length cap hT' .i64 .i64 lo hi h0 h1 (by omega)
    rw [hel] at this
    simp [run_sliceAt_slice w T _ _ _ _ hT', this, hE.size w, Result.andThen]
  · unfold sliced
    rw [← hlen]
    refine qx_ ⟨by omega, by omega, fun hnone => ?_, fun ad had i y hy => ?_⟩
    · cases a with
      | none =>
        obtain ⟨e1, e2⟩ := hn rfl
        subst e1
        exact ⟨by simp, by omega⟩
      | some ad => split at hnone <;> cases hnone
    · have hi' : i < ((l.take hi.toNat).drop lo.toNat).length := (List.getElem?_eq_some_iff.1 hy).1
      cases a with
      | none =>
        obtain ⟨e1, e2⟩ := hn rfl
        subst e1
        simp at hi'
      | some ad0 =>
        rw [if_neg (by omega)] at had
        cases had
        rw [List.getElem?_drop, List.getElem?_take] at hy
        rw [if_pos (by omega)] at hy
        obtain ⟨es, q1, q2⟩ := hrow ad0 rfl _ y hy
        refine ⟨es, q1, fun j u hu => ?_⟩
        have := q2 j u hu
        rw [ik_]
        rw [show lo.toNat * Enc.sz α + (i * Enc.sz α + j) = (lo.toNat + i) * Enc.sz α + j by rw [Nat.add_mul]; omega]
        exact this
end Go.Proofs.YtlpdpeghgndmkaaGreat.Pad
end

section
namespace Go.Proofs.YtlpdpeghgndmkaaGreat.Pad
open Go
structure Raw where
  v : Value
instance : Enc Raw where
  agg := false
  sz := 1
  rep _ cs x := cs = [x.v] ∧ x.v.oneCell' = true
  len h := by rw [h.1]; rfl
  one _ := rfl
  cell1 h := by intro v hv; rw [h.1] at hv; simp at hv; subst hv; exact h.2
  mono _ h := h
def Rel {α β : Type} (R : β → α → Prop) : List β → List α → Prop
  | [], [] => True
  | y :: m, x :: l => R y x ∧ Rel R m l
  | _, _ => False
theorem Rel.length {α β : Type} {R : β → α → Prop} : ∀ {m : List β} {l : List α}, Rel R m l → m.length = l.length
  | [], [], _ => rfl
  | _ :: _, _ :: _, h => by simp [Rel.length h.2]
theorem Rel.append {α β : Type} {R : β → α → Prop} : ∀ {m : List β} {l : List α} {m' : List β} {l' : List α}, Rel R m l → Rel R m' l' → Rel R (m ++ m') (l ++ l')
  | [], [], _, _, _, h => h
  | _ :: _, _ :: _, _, _, h, k => ⟨h.1, Rel.append h.2 k⟩
theorem Rel.mono {α β : Type} {R R' : β → α → Prop} (hh : ∀ y x, R y x → R' y x) : ∀ {m : List β} {l : List α}, Rel R m l → Rel R' m l
  | [], [], _ => trivial
  | _ :: _, _ :: _, h => ⟨hh _ _ h.1, Rel.mono hh h.2⟩
theorem Rel.get {α β : Type} {R : β → α → Prop} : ∀ {m : List β} {l : List α}, Rel R m l → ∀ {i : Nat} {x : α}, l[i]? = some x → ∃ y, m[i]? = some y ∧ R y x
  | [], [], _, i, x, h => by simp at h
  | y :: m, x :: l, hr, 0, z, h => by simp at h; subst h; exact ⟨y, rfl, hr.1⟩
  | y :: m, x :: l, hr, i + 1, z, h => by
    obtain ⟨u, h1, h2⟩ := Rel.get hr.2 (i := i) (x := z) (by simpa using h)
    exact ⟨u, by simpa using h1, h2⟩
section
variable {α β : Type} [Enc α] [Enc β] {S : PH} {R : β → α → Prop}
theorem RepL.to (h : ∀ cs y x, Enc.rep S cs y → R y x → Enc.rep S cs x) : ∀ {m : List β} {l : List α} {cs : List Value}, RepL S cs m → Rel R m l → RepL S cs l
  | [], [], _, a, _ => a
  | y :: m, x :: l, cs, ⟨es, rest, e, h1, h2⟩, ⟨r, k⟩ => ⟨es, rest, e, h _ _ _ h1 r, RepL.to h h2 k⟩
theorem RepL.back (h : ∀ cs x, Enc.rep S cs x → ∃ y, Enc.rep S cs y ∧ R y x) : ∀ {l : List α} {cs : List Value}, RepL S cs l → ∃ m : List β, RepL S cs m ∧ Rel R m l
  | [], cs, a => ⟨[], a, trivial⟩
  | x :: l, cs, ⟨es, rest, e, h1, h2⟩ => by
    obtain ⟨y, r1, r2⟩ := h _ _ h1
    obtain ⟨m, m1, m2⟩ := RepL.back h h2
    exact ⟨y :: m, ⟨es, rest, e, r1, m1⟩, r2, m2⟩
theorem RowP.to {T : TypeId} {v : Value} {m : List β} {l : List α} {k : Hp} (hs : Enc.sz β = Enc.sz α) (h : ∀ cs y x, Enc.rep S cs y → R y x → Enc.rep S cs x) (hR : Rel R m l) (hr : RowP T v m S k) : RowP T v l S k := by
  have hl := hR.length
  rcases hr with ⟨h1, h2, h3⟩ | ⟨g, cap, pre, ls, post, h1, h2, h3, h4, h5, h6⟩
  · refine .inl ⟨h1, ?_, h3⟩
    subst h2
    exact List.eq_nil_of_length_eq_zero (by simpa using hl.symm)
  · exact .inr ⟨g, cap, pre, ls, post, by rw [h1, hl], h2, RepL.to h h3 hR, by omega, h5, by rw [← hs, ← hl]; exact h6⟩
theorem RowP.back {T : TypeId} {v : Value} {l : List α} {k : Hp} (hs : Enc.sz β = Enc.sz α) (h : ∀ cs x, Enc.rep S cs x → ∃ y, Enc.rep S cs y ∧ R y x) (hr : RowP T v l S k) : ∃ m : List β, RowP T v m S k ∧ Rel R m l := by
  rcases hr with ⟨h1, h2, h3⟩ | ⟨g, cap, pre, ls, post, h1, h2, h3, h4, h5, h6⟩
  · subst h2
    exact ⟨[], .inl ⟨h1, rfl, h3⟩, trivial⟩
  · obtain ⟨m, m1, m2⟩ := RepL.back h h3
    have hl := m2.length
    exact ⟨m, .inr ⟨g, cap, pre, ls, post, by rw [h1, hl], h2, m1, by omega, h5, by rw [hs, hl]; exact h6⟩, m2⟩
theorem Inv.headMap {w : World} {A B : HP} {O : List HP} (h : Inv w S (A :: O)) (f : ∀ k, A.p S k → B.p S k) : Inv w S (B :: O) :=
  ⟨h.os, h.out, by obtain ⟨k, a, d, r⟩ := h.own; exact ⟨k, f k a, d, r⟩⟩
theorem Inv.rowTo {w : World} {O : List HP} {T : TypeId} {v : Value} {m : List β} {l : List α} (hs : Enc.sz β = Enc.sz α) (h : ∀ cs y x, Enc.rep S cs y → R y x → Enc.rep S cs x) (hR : Rel R m l)
    (hI : Inv w S (Row T v m :: O)) : Inv w S (Row T v l :: O) := hI.headMap fun k a => RowP.to hs h hR a
theorem RV.to {v : Value} {m : List β} {l : List α} (hs : Enc.sz β = Enc.sz α) (h : ∀ cs y x, Enc.rep S cs y → R y x → Enc.rep S cs x) (hR : Rel R m l) (hv : RV S v m) : RV S v l := by
  have hl := hR.length
  obtain ⟨a, cap, rfl, c1, c2, c3, c4⟩ := kc_ hv
  rw [hl]
  refine qx_ ⟨by omega, c2, fun e => ?_, fun ad e i x hx => ?_⟩
  · obtain ⟨e1, e2⟩ := c3 e
    subst e1
    exact ⟨List.eq_nil_of_length_eq_zero (by simpa using hl.symm), e2⟩
  · obtain ⟨y, hy, r⟩ := hR.get hx
    obtain ⟨es, q1, q2⟩ := c4 ad e i y hy
    exact ⟨es, h _ _ _ q1 r, fun j u hu => by rw [← hs]; exact q2 j u hu⟩
end
theorem eh_ {σ ρ : Type} {s : σ} {k : σ → Option ρ} {r : ρ} (h : onL (Sum.inl s) k = some r) : k s = some r := h
theorem AllP.at_ : ∀ {l : List Nat} {p : Nat → Prop} (h : AllP l p) (i : Nat) {a : Nat} (e : l[i]? = some a), p a
  | [], _, _, _, _, e => by simp at e
  | b :: l, p, h, 0, a, e => by simp at e; subst e; exact h.1
  | b :: l, p, h, i + 1, a, e => AllP.at_ (l := l) h.2 i (by simpa using e)
end Go.Proofs.YtlpdpeghgndmkaaGreat.Pad
end

section
namespace Go.Proofs.YtlpdpeghgndmkaaGreat.Pad
open Go
variable {ro : Option Nat}
section
variable {K V : Type} [Enc K] [Enc V]
def MRep (S : PH) : List MapEntry → List (K × V) → Prop
  | [], [] => True
  | e :: es, x :: m => RV S e.key x.1 ∧ RV S e.val x.2 ∧ MRep S es m
  | _, _ => False
theorem MRep.mono {S T : PH} (hle : S.Le T) : ∀ {es : List MapEntry} {m : List (K × V)}, MRep S es m → MRep T es m
  | [], [], _ => trivial
  | _ :: _, _ :: _, ⟨a, b, c⟩ => ⟨a.mono hle, b.mono hle, MRep.mono hle c⟩
end
section
variable {K V : Type} [DecidableEq K]
end
section
variable {K V : Type} [Enc V] [DecidableEq K] {k : K}
end
section
variable {P : Program} {K V : Type} [Enc K] [Enc V] [DecidableEq K] {T : TypeId} {S : PH} {v : Value} {k : K}
end
section
variable {K V : Type} [Enc K] [Enc V] {k : K}
theorem MRep.append {S : PH} : ∀ {es es' : List MapEntry} {m m' : List (K × V)}, MRep S es m → MRep S es' m' → MRep S (es ++ es') (m ++ m')
  | [], _, [], _, _, h => h
  | _ :: _, _, _ :: _, _, ⟨a, b, c⟩, h => ⟨a, b, MRep.append c h⟩
end
section
variable {w w' : World} {S : PH} {O : List HP}
end
section ops
variable {P : Program} {n : Nat} {f : Fr} {w : World} {F : Fr → World → Prop} {d : Nat} {ty : TypeId} {pos : String} {af : Array Edge} {gd : Option (Nat × Bool)} {x y z : Operand} {v u : Value} {T kt et : TypeId}
  {K V : Type} [Enc K] [Enc V] [DecidableEq K] {S : PH} {O : List HP} {m : List (K × V)} {g : Nat} {k : K} {e : V}
end ops
def xy_ : Nat := 1000000
structure MRef where
  g : Nat
instance : Enc MRef where
  agg := false
  sz := 1
  rep _ cs x := cs = [.map (some x.g)]
  len h := by rw [h]; rfl
  one _ := rfl
  cell1 h := by intro v hv; rw [h] at hv; simp at hv; subst hv; rfl
  mono _ h := h
section
variable {P : Program} {n : Nat} {f : Fr} {w : World} {F : Fr → World → Prop} {d : Nat} {ty : TypeId} {pos : String} {af : Array Edge} {gd : Option (Nat × Bool)} {x : Operand} {v : Value} {T : TypeId} {S : PH}
theorem eu_ {β : Type} [Enc β] {y : β} (hd : Nat.blt d n = true) (hx : ev f x = v) (hp : PtS S v y) (k : F (upd f d v) w) : OP P n ro ⟨some d, .nilCheck x, ty, pos, af, gd⟩ f w F := by
  obtain ⟨a, _, e, _⟩ := hp
  exact qe_ hd hx e k
end
section
variable {P : Program} {w : World}
end
end Go.Proofs.YtlpdpeghgndmkaaGreat.Pad
end

section
namespace Go.Proofs.YtlpdpeghgndmkaaGreat.Pad
open Go
variable {ro : Option Nat}
section
variable {α : Type} [Enc α] {S : PH} {T : TypeId} {v : Value} {l : List α}
theorem RowP.part {k : Hp} {lo hi : Nat} (h : RowP T v l S k) (h1 : lo ≤ hi) (h2 : hi ≤ l.length) :
    ∃ a cap, v = .slice a l.length cap ∧ l.length ≤ cap ∧ RowP T (sliced a lo hi cap (Enc.sz α)) ((l.take hi).drop lo) S k := by
  rcases h with ⟨rfl, rfl, rfl⟩ | ⟨g, cap, pre, ls, post, rfl, rfl, h3, h4, h5, h6⟩
  · have e1 : hi = 0 := by simpa using h2
    subst e1
    have e2 : lo = 0 := by omega
    subst e2
    exact ⟨none, 0, rfl, by simp, .inl ⟨by simp [sliced], by simp, rfl⟩⟩
  · refine ⟨_, cap, rfl, h4, ?_⟩
    obtain ⟨A, B, rfl, hA, hB⟩ := h3.split hi h2
    obtain ⟨A1, A2, rfl, hA1, hA2⟩ := hA.split lo (by rw [List.length_take]; omega)
    have lA1 := hA1.len
    have lA2 := hA2.len
    have lB := hB.len
    rw [List.length_take, List.length_take] at lA1
    rw [List.length_drop, List.length_take] at lA2
    rw [List.length_drop] at lB
    have hmin1 : min hi l.length = hi := by omega
    have hmin2 : min lo (min hi l.length) = lo := by omega
    rw [hmin2] at lA1
    rw [hmin1] at lA2
    have hlen : ((l.take hi).drop lo).length = hi - lo := by rw [List.length_drop, List.length_take]; omega
    have hsz : ∀ a b : Nat, a ≤ b → (b - a) * Enc.sz α = b * Enc.sz α - a * Enc.sz α := fun a b _ => Nat.sub_mul b a _
    have hcap : cap * Enc.sz α ≤ l.length * Enc.sz α + post.length := h6
    have m1 : lo * Enc.sz α ≤ hi * Enc.sz α := Nat.mul_le_mul_right _ h1
    have m2 : hi * Enc.sz α ≤ l.length * Enc.sz α := Nat.mul_le_mul_right _ h2
    by_cases hc : cap = lo
    · have e1 : hi = lo := by omega
      subst e1
      refine .inr ⟨g, 0, pre, [], A1 ++ A2 ++ B ++ post, ?_, by simp, ?_, by omega, by simp [maxLen], by simp⟩
      · unfold sliced
        rw [if_pos hc, hc]
        have : ((l.take hi).drop hi).length = 0 := by rw [hlen]; omega
        rw [this]; simp
      · have : (l.take hi).drop hi = [] := List.eq_nil_of_length_eq_zero (by rw [hlen]; omega)
        rw [this]; exact rfl
    · refine .inr ⟨g, cap - lo, pre ++ A1, A2, B ++ post, ?_, by simp, hA2, by omega, by omega, ?_⟩
      · unfold sliced
        rw [if_neg hc, hlen]
        simp only [Option.map_some, hv_, List.length_append, lA1]
      · rw [hlen, hsz lo cap (by omega), hsz lo hi h1, List.length_append, lB, hsz hi l.length h2]
        omega
theorem RV.part {lo hi : Nat} (h : RV S v l) (h1 : lo ≤ hi) (h2 : hi ≤ l.length) : ∃ a cap, v = .slice a l.length cap ∧ l.length ≤ cap ∧ RV S (sliced a lo hi cap (Enc.sz α)) ((l.take hi).drop lo) := by
  obtain ⟨a, cap, rfl, hl, hm, hn, hrow⟩ := kc_ h
  refine ⟨a, cap, rfl, hl, ?_⟩
  have hlen : ((l.take hi).drop lo).length = hi - lo := by
    rw [List.length_drop, List.length_take]; omega
  unfold sliced
  rw [← hlen]
  refine qx_ ⟨by omega, by omega, fun hnone => ?_, fun ad had i y hy => ?_⟩
  · cases a with
    | none =>
      obtain ⟨e1, e2⟩ := hn rfl
      subst e1
      exact ⟨by simp, by omega⟩
    | some ad => split at hnone <;> cases hnone
  · have hi' : i < ((l.take hi).drop lo).length := (List.getElem?_eq_some_iff.1 hy).1
    cases a with
    | none =>
      obtain ⟨e1, e2⟩ := hn rfl
      subst e1
      simp at hi'
    | some ad0 =>
      rw [if_neg (by omega)] at had
      cases had
      rw [List.getElem?_drop, List.getElem?_take] at hy
      rw [if_pos (by omega)] at hy
      obtain ⟨es, q1, q2⟩ := hrow ad0 rfl _ y hy
      refine ⟨es, q1, fun j u hu => ?_⟩
      have := q2 j u hu
      rw [ik_]
      rw [show lo * Enc.sz α + (i * Enc.sz α + j) = (lo + i) * Enc.sz α + j by rw [Nat.add_mul]; omega]
      exact this
end
section
variable {P : Program} {n : Nat} {f : Fr} {w : World} {K : Fr → World → Prop} {d : Nat} {ty : TypeId} {pos : String} {af : Array Edge} {gd : Option (Nat × Bool)} {x y z : Operand} {v u : Value} {T E : TypeId}
  {α : Type} [Enc α] {S : PH} {O : List HP} {l l' : List α} {lo hi : Int}
theorem run_part_l {a : Option Addr} {len cap : Nat} (hT : P.underlying T = some (.slice E)) (hE : Shape P E (Enc.agg α) (Enc.sz α)) (h0 : 0 ≤ lo) (h1 : lo ≤ len) :
    (Instr.sliceAt T (.slice a len cap) (some (.int .i64 lo)) none none).run P w = .ok (sliced a lo.toNat len cap (Enc.sz α)) w := by
  have hel : P.elem T = E := by simp [Program.elem, hT]
  have hT' : P.underlying T = some (.slice (P.elem T)) := by rw [hel]; exact hT
  have := run_slice_l (P := P) w T a len cap hT' .i64 lo h0 h1
  rw [hel] at this
  simp [run_sliceAt_slice w T _ _ _ _ hT', this, hE.size w, Result.andThen]
theorem run_part_h {a : Option Addr} {len cap : Nat} (hT : P.underlying T = some (.slice E)) (hE : Shape P E (Enc.agg α) (Enc.sz α)) (h0 : 0 ≤ hi) (h1 : hi ≤ cap) :
    (Instr.sliceAt T (.slice a len cap) none (some (.int .i64 hi)) none).run P w = .ok (sliced a 0 hi.toNat cap (Enc.sz α)) w := by
  have hel : P.elem T = E := by simp [Program.elem, hT]
  have hT' : P.underlying T = some (.slice (P.elem T)) := by rw [hel]; exact hT
  have := run_slice_h (P := P) w T a len cap hT' .i64 hi h0 h1
  rw [hel] at this
  simp [run_sliceAt_slice w T _ _ _ _ hT', this, hE.size w, Result.andThen]
theorem xj_ (hd : Nat.blt d n = true) (hT : P.underlying T = some (.slice E)) (hE : Shape P E (Enc.agg α) (Enc.sz α)) (hx : ev f x = v) (hI : Inv w S (Row E v l :: O)) (hy : ev f y = .int .i64 hi)
    (he : sub? l 0 hi = some l') (k : ∀ u, Inv w S (Row E u l' :: O) → K (upd f d u) w) : OP P n ro ⟨some d, .slice T x none (some y) none, ty, pos, af, gd⟩ f w K := by
  obtain ⟨h0, h1, h2, rfl⟩ := qu_ he
  obtain ⟨q, hq, hI'⟩ := hI.open_
  obtain ⟨a, cap, rfl, hc, hp⟩ := hq.part (lo := 0) (hi := hi.toNat) (by omega) (by omega)
  refine dd_ hd (v := sliced a 0 hi.toNat cap (Enc.sz α)) (w' := w) (by simp [execOp, hx, hy, run_part_h hT hE h1 (show hi ≤ (cap : Int) by omega)]) (k _ (hI'.shut (A := Row E _ _) ?_))
  show RowP E _ _ S q
  simpa using hp
def EndOf {α : Type} [Enc α] (v : Value) (l : List α) (lo : Nat) (u : Value) : Prop := ∃ a cap, v = .slice a l.length cap ∧ u = sliced a lo l.length cap (Enc.sz α)
theorem zw_ {le : List α} (hd : Nat.blt d n = true) (hT : P.underlying T = some (.slice E)) (hE : Shape P E (Enc.agg α) (Enc.sz α)) (hx : ev f x = v) (hI : Inv w S (Row E v l :: O)) (hy : ev f y = .int .i64 lo)
    (he : sub? l lo l.length = some le) (k : ∀ u, EndOf v l lo.toNat u → K (upd f d u) w) : OP P n ro ⟨some d, .slice T x (some y) none none, ty, pos, af, gd⟩ f w K := by
  obtain ⟨h0, h1, h2, rfl⟩ := qu_ he
  obtain ⟨a, cap, rfl, hc⟩ := hI.rowForm
  exact dd_ hd (v := sliced a lo.toNat l.length cap (Enc.sz α)) (w' := w) (by simp [execOp, hx, hy, run_part_l hT hE h0 h1]) (k _ ⟨a, cap, rfl, rfl⟩)
theorem op_val0 {op : Op} {w' : World} (h : (execOp (ev f) ⟨none, op, ty, pos, af, gd⟩).run P w = .ok (.value v) w') (k : K f w') : OP P n ro ⟨none, op, ty, pos, af, gd⟩ f w K := by
  intro a ha Q
  refine ⟨fun _ _ => trivial, ?_⟩
  rw [ha.eval, qw_ h (fun _ e => by cases e)]
  exact ⟨f, ha, k⟩
theorem op_clear {bytes : Nat} {zv : Value} {zd : α} {b : Nat} {ct : Array TypeId} (hct : ct = #[T]) (hT : P.underlying T = some (.slice E)) (hE0 : Elem P α E bytes zv zd) (hx : ev f x = u) (hI : Inv w S (Row E v l :: O)) (hb : b ≤ l.length) (hu : EndOf v l b u)
    (k : ∀ w', Inv w' S (Row E v (l.take b ++ List.replicate (l.length - b) zd) :: O) → K f w') : OP P n ro ⟨none, .call ⟨.builtin .clear, #[x], ct⟩, ty, pos, af, gd⟩ f w K := by
  subst hct
  obtain ⟨ei, hE⟩ := hE0
  obtain ⟨a, cap, rfl, rfl⟩ := hu
  have hzero : (zeroValue E).run P w = .ok zv w := by simp [zeroValue, typeInfo, hE.hi, hE.hz]
  by_cases h0 : l.length - b = 0
  · refine op_val0 (v := .tuple #[]) (w' := w) ?_ (k w ?_)
    · have : (Builtin.clear_ #[T] ty #[sliced a b l.length cap (Enc.sz α)]).run P w = .ok (.tuple #[]) w := by
        unfold sliced
        rw [h0]
        unfold Builtin.clear_
        cases hq : (if cap = b then a else a.map (·.add (b * Enc.sz α))) with
        | none => simp [run_underlying hT]
        | some q => simp [run_underlying hT]
      simp [execOp, hx, resolve, invoke, builtin, this]
    · have : b = l.length := by omega
      subst this
      simpa using hI
  · obtain ⟨q, hq, hI'⟩ := hI.open_
    rcases hq with ⟨e1, e2, e3⟩ | ⟨g, cap', pre, ls, post, e1, rfl, h3, h4, h5, h6⟩
    · subst e2; simp at h0
    · obtain ⟨rfl, rfl⟩ : a = some ⟨g, pre.length, none⟩ ∧ cap = cap' := by
        injection e1 with q1 q2 q3; exact ⟨q1, q3⟩
      obtain ⟨A, B, rfl, hA, hB⟩ := h3.split b hb
      have lA := hA.len
      have lB := hB.len
      rw [List.length_take] at lA
      rw [List.length_drop] at lB
      have hmin : min b l.length = b := by omega
      rw [hmin] at lA
      have hz : (Builtin.zeroCells zv.cells (l.length - b)).toList = (List.replicate (l.length - b) zv.cells.toList).flatten := sz_ _ _
      have hrz := RepL.replicate (hE.rep S) (l.length - b)
      have lz := hrz.len
      rw [List.length_replicate] at lz
      have eq1 : pre ++ (A ++ B ++ post) = (pre ++ A) ++ (B ++ post) := by simp [List.append_assoc]
      rw [eq1] at hI'
      obtain ⟨w', hst, hI''⟩ := gc_ (P := P) (X := (List.replicate (l.length - b) zv.cells.toList).flatten) hI' (by rw [lB, lz]) (fun q hq => hrz.cell1 q hq)
      refine op_val0 (v := .tuple #[]) (w' := w') ?_ (k w' (hI''.shut (A := Row E _ _) ?_))
      · have hne : cap ≠ b := by omega
        have : (Builtin.clear_ #[T] ty #[sliced (some ⟨g, pre.length, none⟩) b l.length cap (Enc.sz α)]).run P w = .ok (.tuple #[]) w' := by
          unfold sliced
          rw [if_neg hne]
          simp only [Option.map_some, hv_]
          have e2 : pre.length + b * Enc.sz α = (pre ++ A).length := by simp [lA]
          rw [e2]
          unfold Builtin.clear_
          obtain ⟨m, hm⟩ : ∃ m, l.length - b = m + 1 := ⟨l.length - b - 1, by omega⟩
          have hst' := hst
          rw [← hz] at hst'
          rw [hm] at hst' ⊢
          simp only [List.length_append] at hst' ⊢
          simp [run_underlying hT, hzero, hst']
        simp [execOp, hx, resolve, invoke, builtin, this]
      · refine .inr ⟨g, cap, pre, A ++ (List.replicate (l.length - b) zv.cells.toList).flatten, post, ?_, by simp [List.append_assoc], hA.append hrz, ?_, h5, ?_⟩
        · simp; omega
        · simp; omega
        · have : (List.take b l ++ List.replicate (l.length - b) zd).length = l.length := by simp; omega
          rw [this]; exact h6
end
theorem sub_le {α : Type} {l l' : List α} {lo : Int} (h : sub? l lo l.length = some l') : lo.toNat ≤ l.length := by
  obtain ⟨h0, h1, _, _⟩ := qu_ h
  omega
structure PRef (α : Type) where
  v : α
instance {α : Type} [Enc α] : Enc (PRef α) where
  agg := false
  sz := 1
  rep S cs x := ∃ a, cs = [.pointer (some a)] ∧ PtS S (.pointer (some a)) x.v
  len h := by obtain ⟨a, e, _⟩ := h; rw [e]; rfl
  one _ := rfl
  cell1 h := by obtain ⟨a, e, _⟩ := h; intro v hv; rw [e] at hv; simp at hv; subst hv; rfl
  mono hle h := by obtain ⟨a, e, p⟩ := h; exact ⟨a, e, p.mono hle⟩
theorem rv_ref {α : Type} [Enc α] {S : PH} {v : Value} {x : PRef α} (h : RV S v x) : PtS S v x.v := by
  obtain ⟨cs, ⟨a, rfl, p⟩, rfl⟩ := h
  exact p
theorem rv_ref' {α : Type} [Enc α] {S : PH} {v : Value} {x : α} (h : PtS S v x) : RV S v (⟨x⟩ : PRef α) := by
  obtain ⟨a, cs, rfl, h1, h2⟩ := h
  exact ⟨[.pointer (some a)], ⟨a, rfl, a, cs, rfl, h1, h2⟩, rfl⟩
theorem PtS.ptr {α : Type} [Enc α] {S : PH} {v : Value} {x : α} (h : PtS S v x) : ∃ a, v = .pointer (some a) := by
  obtain ⟨a, _, e, _⟩ := h; exact ⟨a, e⟩
section
variable {w : World} {S : PH} {O : List HP} {β : Type} [Enc β] {g : Nat} {B : TypeId} {cs : Array Value} {x : β}
theorem cells_pts {T : PH} {h : Hp} (hc : (am_ g B cs).p S h) (hle : h.Le T.m) (hx : Enc.rep T cs.toList x) : PtS T (.pointer (some ⟨g, 0, none⟩)) x := by
  have hc : h = Hp.one g (.cells cs B (0, 0)) := hc
  subst hc
  have hb := hle g (.cells cs B (0, 0)) (by simp [Hp.one])
  refine ⟨_, _, rfl, hx, fun j u hu => ?_⟩
  rw [hv_]
  simp only [PH.cell, hb]
  simpa using hu
variable {α γ : Type} [Enc α] [Enc γ] {T1 T2 : TypeId} {v1 v2 : Value} {l1 : List α} {l2 : List γ}
theorem Inv.lendB1 (h : Inv w S (am_ g B cs :: Row T1 v1 l1 :: O)) (hx : ∀ T, S.Le T → RV T v1 l1 → Enc.rep T cs.toList x) : ∃ T, ∃ Fr : List HP, S.Le T ∧ Inv w T Fr ∧ PtS T (.pointer (some ⟨g, 0, none⟩)) x ∧ RV T v1 l1 ∧
    ∀ {w' U} (M : List HP), st_ M → Inv w' U (M ++ Fr) → T.Le U → Inv w' S (M ++ (am_ g B cs :: Row T1 v1 l1 :: O)) := by
  obtain ⟨T, hs, Fr, a, b, c, e, back⟩ := Inv.lendN [am_ g B cs, Row T1 v1 l1] h
  match hs, c with
  | [h1, h2], _ =>
    obtain ⟨p1, q1⟩ := e 0 _ _ rfl rfl
    obtain ⟨p2, q2⟩ := e 1 _ _ rfl rfl
    have r1 := RowP.rv p2 a q2
    exact ⟨T, Fr, a, b, cells_pts p1 q1 (hx T a r1), r1, back⟩
end
section
variable {P : Program} {n : Nat} {f : Fr} {w : World} {F : Fr → World → Prop} {d : Nat} {ty : TypeId} {pos : String} {af : Array Edge} {gd : Option (Nat × Bool)} {x y z : Operand} {v u : Value} {T T2 kt et : TypeId} {S : PH} {O : List HP}
end
end Go.Proofs.YtlpdpeghgndmkaaGreat.Pad
end

section
namespace Go.Proofs.YtlpdpeghgndmkaaGreat.Pad
open Go
variable {ro : Option Nat}
def OwnH (S : PH) : List HP → Hp → Prop
  | [], h => h = Hp.emp
  | A :: L, h => ∃ a b, A.p S a ∧ OwnH S L b ∧ Hp.Disj a b ∧ h = Hp.un a b
theorem OwnH.mono {S T : PH} (hst : S.Le T) : ∀ {L : List HP} {h : Hp}, OwnH S L h → OwnH T L h
  | [], _, h => h
  | A :: L, _, ⟨a, b, h1, h2, h3, h4⟩ => ⟨a, b, A.mono hst h1, OwnH.mono hst h2, h3, h4⟩
def nq_ (L : List HP) : HP := ⟨fun S h => OwnH S L h, fun hst h => OwnH.mono hst h⟩
section
variable {w : World} {S : PH}
theorem Own.allOpen : ∀ {L O : List HP} {U : Hp}, Own w S U (nq_ L :: O) → Own w S U (L ++ O)
  | [], O, U, ⟨h, hA, hd, hr⟩ => by
    have hA : h = Hp.emp := hA
    subst hA
    have : Hp.un Hp.emp U = U := by funext b; simp [Hp.un, Hp.emp]
    rw [this] at hr
    exact hr
  | A :: L, O, U, ⟨h, hA, hd, hr⟩ => by
    obtain ⟨a, b, h1, h2, h3, rfl⟩ := (hA : OwnH S (A :: L) h)
    have da : Hp.Disj a U := hd.mono (Hp.le_un_left _ _) (Hp.Le.refl _)
    have db : Hp.Disj b U := hd.mono (Hp.le_un_right h3) (Hp.Le.refl _)
    refine ⟨a, h1, da, Own.allOpen ⟨b, h2, ?_, ?_⟩⟩
    · exact Hp.Disj.symm (Hp.Disj.un h3 db.symm)
    · rw [← Hp.un_assoc, Hp.un_comm h3.symm]; exact hr
theorem Own.allShut : ∀ {L O : List HP} {U : Hp}, Own w S U (L ++ O) → Own w S U (nq_ L :: O)
  | [], O, U, h => by
    refine ⟨Hp.emp, rfl, fun b => .inl rfl, ?_⟩
    have : Hp.un Hp.emp U = U := by funext b; simp [Hp.un, Hp.emp]
    rw [this]; exact h
  | A :: L, O, U, ⟨a, h1, da, hr⟩ => by
    obtain ⟨b, h2, hd, hr'⟩ := Own.allShut hr
    have dab : Hp.Disj b a := hd.mono (Hp.Le.refl _) (Hp.le_un_left _ _)
    have dbu : Hp.Disj b U := hd.mono (Hp.Le.refl _) (Hp.le_un_right da)
    refine ⟨Hp.un a b, ⟨a, b, h1, h2, dab.symm, rfl⟩, Hp.Disj.un da dbu, ?_⟩
    rw [Hp.un_comm dab.symm, Hp.un_assoc]; exact hr'
theorem Inv.allOpen {L O : List HP} (h : Inv w S (nq_ L :: O)) : Inv w S (L ++ O) := ⟨h.os, h.out, Own.allOpen h.own⟩
theorem Inv.allShut {L O : List HP} (h : Inv w S (L ++ O)) : Inv w S (nq_ L :: O) := ⟨h.os, h.out, Own.allShut h.own⟩
end
section
variable {α : Type} [Enc α] {w : World} {S : PH} {O : List HP} {To Ti : TypeId} {v : Value} {raws : List Raw} {ls : List (List α)}
def ca_ (Ti : TypeId) (raws : List Raw) (ls : List (List α)) : List HP := List.zipWith (fun r l => Row Ti r.v l) raws ls
def fe_ (To Ti : TypeId) (v : Value) (raws : List Raw) (ls : List (List α)) : HP := nq_ (Row To v raws :: ca_ Ti raws ls)
theorem oo_ : ∀ (raws : List Raw) (ls : List (List α)) (i : Nat) (r : Raw) (l l' : List α), raws[i]? = some r → ls[i]? = some l →
    ∃ F : List HP, (ca_ Ti raws ls).Perm (Row Ti r.v l :: F) ∧ ∀ r' : Raw, (ca_ Ti (raws.set i r') (ls.set i l')).Perm (Row Ti r'.v l' :: F)
  | [], _, _, _, _, _, h, _ => by simp at h
  | _ :: _, [], _, _, _, _, _, h => by simp at h
  | a :: raws, b :: ls, 0, r, l, l', h, k => by
    simp at h k
    subst h; subst k
    exact ⟨ca_ Ti raws ls, .refl _, fun r' => .refl _⟩
  | a :: raws, b :: ls, i + 1, r, l, l', h, k => by
    obtain ⟨F, h1, h2⟩ := oo_ raws ls i r l l' (by simpa using h) (by simpa using k)
    refine ⟨Row Ti a.v b :: F, ?_, fun r' => ?_⟩
    · exact (List.Perm.cons _ h1).trans (List.Perm.swap _ _ _)
    · exact (List.Perm.cons _ (h2 r')).trans (List.Perm.swap _ _ _)
theorem Inv.gridAt (h : Inv w S (fe_ To Ti v raws ls :: O)) {i : Nat} {r : Raw} {l : List α} (hr : raws[i]? = some r) (hl : ls[i]? = some l) :
    ∃ F : List HP, Inv w S (Row Ti r.v l :: Row To v raws :: (F ++ O)) ∧ ∀ {w' S' l'}, Inv w' S' (Row Ti r.v l' :: Row To v raws :: (F ++ O)) → Inv w' S' (fe_ To Ti v raws (ls.set i l') :: O) := by
  obtain ⟨F, h1, _⟩ := oo_ (Ti := Ti) raws ls i r l l hr hl
  have h2 := h.allOpen
  refine ⟨F, ?_, ?_⟩
  · refine h2.perm ?_
    refine (List.Perm.cons _ (h1.append_right O)).trans ?_
    exact List.Perm.swap _ _ _
  · intro w' S' l' h'
    obtain ⟨F', h3, h4⟩ := oo_ (Ti := Ti) raws ls i r l l' hr hl
    have hset : raws.set i r = raws := by
      apply List.ext_getElem?
      intro j
      rw [List.getElem?_set]
      split
      · rename_i e; subst e
        have := (List.getElem?_eq_some_iff.1 hr).1
        rw [if_pos this, hr]
      · rfl
    have h5 := h4 r
    rw [hset] at h5
    have hFF : F.Perm F' := List.Perm.cons_inv (h1.symm.trans h3)
    refine Inv.allShut (h'.perm ?_)
    refine (List.Perm.swap _ _ _).trans (List.Perm.cons _ ?_)
    refine List.Perm.trans ?_ (h5.symm.append_right O)
    exact List.Perm.cons _ (hFF.append_right O)
theorem Inv.gridOut (h : Inv w S (fe_ To Ti v raws ls :: O)) : Inv w S (Row To v raws :: (ca_ Ti raws ls ++ O)) := h.allOpen
end
section ops
variable {P : Program} {n : Nat} {f : Fr} {w : World} {K : Fr → World → Prop} {d : Nat} {ty : TypeId} {pos : String} {af : Array Edge} {gd : Option (Nat × Bool)} {x y z : Operand} {u : Value} {T : TypeId}
  {α : Type} [Enc α] {S : PH} {O : List HP} {To Ti : TypeId} {v : Value} {raws : List Raw} {ls : List (List α)}
theorem yx_ {i : Nat} {r : Raw} {l : List α} {k : Int} {e e' : α} (hr : raws[i]? = some r) (hl : ls[i]? = some l) (hT : Shape P T (Enc.agg α) (Enc.sz α)) (hI : Inv w S (fe_ To Ti v raws ls :: O))
    (hx : ev f x = af_ r.v k (Enc.sz α)) (hy : ev f y = u) (he : at? l k = some e) (hu : RV S u e') (c : ∀ w', Inv w' S (fe_ To Ti v raws (ls.set i (l.set k.toNat e')) :: O) → K f w') :
    OP P n ro ⟨none, .store T x y, ty, pos, af, gd⟩ f w K := by
  obtain ⟨F, h1, h2⟩ := hI.gridAt hr hl
  exact dh_ hT h1 hx hy he hu (fun w' h' => c w' (h2 h'))
theorem sy_ {i : Nat} {r : Raw} {l : List α} {k : Int} {e : α} (hr : raws[i]? = some r) (hl : ls[i]? = some l) (hd : Nat.blt d n = true) (hT : P.underlying T = some (.slice Ti)) (hE : Shape P Ti (Enc.agg α) (Enc.sz α))
    (hI : Inv w S (fe_ To Ti v raws ls :: O)) (hx : ev f x = r.v) (hi : ev f y = .int .i64 k) (he : at? l k = some e) (c : K (upd f d (af_ r.v k (Enc.sz α))) w) :
    OP P n ro ⟨some d, .indexAddr T x y, ty, pos, af, gd⟩ f w K := by
  obtain ⟨F, h1, _⟩ := hI.gridAt hr hl
  exact ba_ hd hT hE hx h1.rowSrc hi he c
theorem Inv.gridElem {i : Nat} {r : Raw} {l : List α} {k : Int} {e : α} (hI : Inv w S (fe_ To Ti v raws ls :: O)) (hr : raws[i]? = some r) (hl : ls[i]? = some l) (he : at? l k = some e) : PtT w S (af_ r.v k (Enc.sz α)) e := by
  obtain ⟨F, h1, _⟩ := hI.gridAt hr hl
  exact h1.rowElem he
theorem fh_ {i : Int} {r : Raw} (hd : Nat.blt d n = true) (hT : P.underlying T = some (.slice To)) (hE : Shape P To (Enc.agg Raw) (Enc.sz Raw))
    (hI : Inv w S (fe_ To Ti v raws ls :: O)) (hx : ev f x = v) (hi : ev f y = .int .i64 i) (hr : at? raws i = some r) (c : K (upd f d (af_ v i (Enc.sz Raw))) w) :
    OP P n ro ⟨some d, .indexAddr T x y, ty, pos, af, gd⟩ f w K :=
  ba_ hd hT hE hx hI.gridOut.rowSrc hi hr c
theorem Inv.gridRowAt {i : Int} {r : Raw} (hI : Inv w S (fe_ To Ti v raws ls :: O)) (hr : at? raws i = some r) : PtT w S (af_ v i (Enc.sz Raw)) r := hI.gridOut.rowElem hr
end ops
section
variable {α : Type} [Enc α] {w : World} {S : PH} {O : List HP} {To Ti : TypeId} {v : Value} {raws : List Raw} {ls : List (List α)}
theorem ta_ (Ti : TypeId) : ∀ (k : Nat), Inv w S O → Inv w S (ca_ Ti (List.replicate k ⟨.slice none 0 0⟩) (List.replicate k ([] : List α)) ++ O)
  | 0, h => h
  | k + 1, h => by
    have := (ta_ Ti k h).rowNil (T := Ti) (α := α)
    exact this
theorem Inv.gridNew {k : Nat} (h : Inv w S (Row To v (List.replicate k (⟨.slice none 0 0⟩ : Raw)) :: O)) : Inv w S (fe_ To Ti v (List.replicate k ⟨.slice none 0 0⟩) (List.replicate k ([] : List α)) :: O) := by
  have h1 := ta_ (α := α) Ti k (h.perm (List.Perm.refl _))
  refine Inv.allShut (h1.perm ?_)
  exact List.perm_middle
end
section
variable {α : Type} [Enc α] {w : World} {S : PH} {O : List HP} {To Ti : TypeId} {v : Value} {raws : List Raw} {ls : List (List α)}
theorem rel_get {α β : Type} {R : β → α → Prop} : ∀ {m : List β} {l : List α}, m.length = l.length → (∀ (i : Nat) (y : β) (x : α), m[i]? = some y → l[i]? = some x → R y x) → Rel R m l
  | [], [], _, _ => trivial
  | [], _ :: _, h, _ => by simp at h
  | _ :: _, [], h, _ => by simp at h
  | y :: m, x :: l, h, k => ⟨k 0 y x rfl rfl, rel_get (by simpa using h) (fun i a b ha hb => k (i + 1) a b (by simpa using ha) (by simpa using hb))⟩
end
section
variable {α : Type} [Enc α] {w : World} {S : PH} {O : List HP} {To Ti : TypeId} {v : Value}
theorem Inv.rowsFreeze : ∀ {raws : List Raw} {ls : List (List α)} {S : PH}, Inv w S (ca_ Ti raws ls ++ O) → ∃ U, S.Le U ∧ Inv w U O ∧ ∀ (i : Nat) (y : Raw) (x : List α), raws[i]? = some y → ls[i]? = some x → RV U y.v x
  | [], ls, S, h => ⟨S, PH.Le.refl S, h, fun i y x hy => by simp at hy⟩
  | _ :: _, [], S, h => ⟨S, PH.Le.refl S, h, fun i y x _ hx => by simp at hx⟩
  | a :: raws, b :: ls, S, h => by
    have h' : Inv w S (Row Ti a.v b :: (ca_ Ti raws ls ++ O)) := h
    obtain ⟨U, h1, h2, h3⟩ := h'.rowFreeze
    obtain ⟨V, h4, h5, h6⟩ := Inv.rowsFreeze h2
    refine ⟨V, h1.trans h4, h5, fun i y x hy hx => ?_⟩
    cases i with
    | zero => simp at hy hx; subst hy; subst hx; exact h3.mono h4
    | succ i => exact h6 i y x (by simpa using hy) (by simpa using hx)
theorem Inv.gridFreeze {raws : List Raw} {ls : List (List α)} (h : Inv w S (fe_ To Ti v raws ls :: O)) (hlen : raws.length = ls.length) : ∃ U, S.Le U ∧ Inv w U O ∧ RV U v ls := by
  have h1 : Inv w S (ca_ Ti raws ls ++ (Row To v raws :: O)) := h.allOpen.perm List.perm_middle.symm
  obtain ⟨U, a, b, c⟩ := h1.rowsFreeze
  have h2 : Inv w U (Row To v ls :: O) := Inv.rowTo (R := fun (y : Raw) (x : List α) => RV U y.v x) rfl (fun cs y x hcs hR => by
    rw [hcs.1]
    have h1 := hR.cells
    obtain ⟨z, m, k, e⟩ := ac_ hR
    rw [e] at h1 ⊢
    exact h1) (rel_get hlen c) b
  obtain ⟨V, d, e, f⟩ := h2.rowFreeze
  exact ⟨V, a.trans d, e, f⟩
end
end Go.Proofs.YtlpdpeghgndmkaaGreat.Pad
end

section
namespace Go.Proofs.YtlpdpeghgndmkaaGreat.Pad
open Go
variable {ro : Option Nat}
def HPof (Φ : PH → List HP → Prop) : HP where
  p S h := ∃ S0 L, S0.Le S ∧ Φ S0 L ∧ OwnH S L h
  mono hle h := by
    obtain ⟨S0, L, h1, h2, h3⟩ := h
    exact ⟨S0, L, h1.trans hle, h2, OwnH.mono hle h3⟩
section
variable {w : World} {S : PH} {O : List HP} {Φ : PH → List HP → Prop}
theorem Inv.ofOpen (h : Inv w S (HPof Φ :: O)) : ∃ S0 L, S0.Le S ∧ Φ S0 L ∧ Inv w S (L ++ O) := by
  obtain ⟨k, ⟨S0, L, h1, h2, h3⟩, hd, hr⟩ := h.own
  exact ⟨S0, L, h1, h2, Inv.allOpen ⟨h.os, h.out, k, h3, hd, hr⟩⟩
theorem Inv.ofShut {L : List HP} (hΦ : Φ S L) (h : Inv w S (L ++ O)) : Inv w S (HPof Φ :: O) :=
  (Inv.allShut h).headMap fun _ hk => ⟨S, L, PH.Le.refl S, hΦ, hk⟩
end
def CallV (P : Program) (v : Value) (args : List Value) (w : World) (R : Ending → World → Prop) : Prop :=
  (∃ k cap, v = .func (.func k) #[] cap ∧ ax_ P k ∧ Calls P k (args.toArray ++ cap) w R) ∨
  ∃ l fn tmps assign body, v = .func (.yield l) #[] #[] ∧ (Instr.yield l args.toArray).run P w = .ok (.round l fn tmps assign body) w ∧ RoundIn (FW none) 0 P l fn tmps assign body w R
theorem CallV.mono {P : Program} {v : Value} {args : List Value} {w : World} {R R' : Ending → World → Prop} (h : CallV P v args w R) (hr : ∀ e w', R e w' → R' e w') : CallV P v args w R' := by
  rcases h with ⟨k, cap, h1, h2, h3⟩ | ⟨l, fn, tmps, assign, body, h1, h2, h3⟩
  · exact .inl ⟨k, cap, h1, h2, h3.mono hr⟩
  · exact .inr ⟨l, fn, tmps, assign, body, h1, h2, h3.mono hr⟩
section
variable {P : Program} {n : Nat} {f : Fr} {w : World} {K : Fr → World → Prop} {d : Nat} {ty : TypeId} {pos : String} {af : Array Edge} {gd : Option (Nat × Bool)} {x : Operand} {v : Value} {S : PH}
theorem tu_ {vs : List Value} {args : Array Operand} {ct : Array TypeId} {Fr : List HP} {Ψ : PH → Value → List HP → Prop} (hd : Nat.blt d n = true) (hx : ev f x = v) (hargs : (args.map (ev f)) ++ #[] = vs.toArray)
    (hc : CallV P v vs w (lp_ S Fr Ψ)) (kont : ∀ r w' T O', S.Le T → Inv w' T (O' ++ Fr) → Ψ T r O' → K (upd f d r) w') : OP P n ro ⟨some d, .call ⟨.value x, args, ct⟩, ty, pos, af, gd⟩ f w K := by
  rw [Array.append_empty] at hargs
  rcases hc with ⟨k, cap, rfl, hk, hc⟩ | ⟨l, fn, tmps, assign, body, rfl, hy, hr⟩
  · refine wp_ (run_call hk hx (by rw [hargs])) hc fun e w' h => ?_
    cases e with
    | returned r => obtain ⟨T, O', h1, h2, h3⟩ := h; exact ⟨r, rfl, hd, kont r w' T O' h1 h2 h3⟩
    | panicked c => exact h.elim
    | outgrown => exact h.elim
  · intro a ha Q
    refine ⟨fun _ _ => trivial, ?_⟩
    have hrun : (execOp a.eval ⟨some d, .call ⟨.value x, args, ct⟩, ty, pos, af, gd⟩).run P w = .ok (.round l fn tmps assign body) w := by
      rw [ha.eval]
      simp [execOp, resolve, hx, Deferred.ofValue, invoke, hargs, hy]
    rw [qw_ hrun (fun _ e => by cases e)]
    refine ⟨fun h => (by cases h), RoundIn.mono (F := FW ro) hr fun e w' h => ?_⟩
    cases e with
    | returned r => obtain ⟨T, O', h1, h2, h3⟩ := h; exact ⟨_, ha.putO (d := some d) hd r, kont r w' T O' h1 h2 h3⟩
    | panicked c => exact h.elim
    | outgrown => exact h.elim
end
structure ArgM (α : Type) where
  rel : PH → List Value → α → Prop
  own : List Value → α → List HP
  mono : ∀ {S T : PH} {us : List Value} {x : α}, S.Le T → rel S us x → rel T us x
def rx_ (α : Type) [Enc α] (T : TypeId) : ArgM (List α) := ⟨fun _ us _ => ∃ a n k, us = [Value.slice a n k], fun us x => [Row T (us.headD undef) x], fun _ h => h⟩
def argII : ArgM (Int × Int) := ⟨fun _ us x => us = [Value.int .i64 x.1, Value.int .i64 x.2], fun _ _ => [], fun _ h => h⟩
def ends {α σ τ : Type} (M : ArgM α) (us : List Value) (x : α) (R : σ → HP) (Rx : τ → HP) (o : σ ⊕ τ) (r : Value) (O' : List HP) : Prop :=
  r = .bool o.isLeft ∧ O' = M.own us x ++ [Sum.elim R Rx o]
def Yields {α σ τ : Type} (M : ArgM α) (P : Program) (S : PH) (v : Value) (R : σ → HP) (Rx : τ → HP) (g : α → σ → Option (σ ⊕ τ)) : Prop :=
  ∀ T w Fr us x s o, S.Le T → M.rel T us x → Inv w T (M.own us x ++ (R s :: Fr)) → g x s = some o → CallV P v us w (lp_ T Fr fun _ r O' => ends M us x R Rx o r O')
theorem Yields.mono {α σ τ : Type} {M : ArgM α} {P : Program} {S T : PH} {v : Value} {R : σ → HP} {Rx : τ → HP} {g : α → σ → Option (σ ⊕ τ)} (h : Yields M P S v R Rx g) (hle : S.Le T) : Yields M P T v R Rx g :=
  fun U w Fr us x s o hu => h U w Fr us x s o (hle.trans hu)
def ItV {α : Type} (M : ArgM α) (P : Program) (S : PH) (gv : Value) (F : ∀ {σ τ : Type}, (α → σ → Option (σ ⊕ τ)) → σ → Option (σ ⊕ τ)) : Prop :=
  ∃ (k : FuncId) (fst cap : List Value), gv = .func (.func k) fst.toArray cap.toArray ∧ ax_ P k ∧ ∀ {σ τ : Type} (R : σ → HP) (Rx : τ → HP) (g : α → σ → Option (σ ⊕ τ)) (T : PH) (w : World) (Fr : List HP) (v : Value) (s : σ) (o : σ ⊕ τ),
    S.Le T → v.oneCell' = true → Yields M P T v R Rx g → Inv w T (R s :: Fr) → F g s = some o → Calls P k (fst ++ v :: cap).toArray w (lp_ T Fr fun _ _ O' => O' = [Sum.elim R Rx o])
theorem ItV.mono {α : Type} {M : ArgM α} {P : Program} {S T : PH} {gv : Value} {F : ∀ {σ τ : Type}, (α → σ → Option (σ ⊕ τ)) → σ → Option (σ ⊕ τ)} (h : ItV M P S gv F) (hle : S.Le T) : ItV M P T gv F := by
  obtain ⟨k, fst, cap, h1, h2, h3⟩ := h
  exact ⟨k, fst, cap, h1, h2, fun R Rx g U w Fr v s o hu => h3 R Rx g U w Fr v s o (hle.trans hu)⟩
def fz_ (l : Nat) (r : Loop) : HP := HP.exact (Hp.one l (.loop r))
def Dfr (D : Nat) : HP := HP.exact (Hp.one D (.deferred (some [])))
section
variable {P : Program} {w : World} {S : PH} {O : List HP} {g : Nat} {o o' : Obj}
theorem Inv.obj (h : Inv w S (HP.exact (Hp.one g o) :: O)) : w.heap[g]? = some o := Inv.front h g o (by simp [Hp.one])
theorem Inv.objLt (h : Inv w S (HP.exact (Hp.one g o) :: O)) : g < w.heap.size := (Array.getElem?_eq_some_iff.1 h.obj).1
theorem Inv.setObj (h : Inv w S (HP.exact (Hp.one g o) :: O)) (o' : Obj) : Inv { w with heap := w.heap.setIfInBounds g o' } S (HP.exact (Hp.one g o') :: O) := by
  refine Inv.turn (w := w) h rfl rfl (fun b => ?_) (fun b hn => ?_) (fun b x e => ?_)
  · by_cases e : b = g <;> simp [Hp.one, e]
  · have hne : b ≠ g := by rintro rfl; simp [Hp.one] at hn
    exact Array.getElem?_setIfInBounds_ne (Ne.symm hne)
  · unfold Hp.one at e
    by_cases hbg : b = g
    · subst hbg
      simp at e
      subst e
      have := h.objLt
      simp [this]
    · simp [hbg] at e
theorem tt_ {l : Nat} {r : Loop} (h : w.heap[l]? = some (.loop r)) : (Instr.getLoop l).run P w = .ok r w := by
  simp [Instr.getLoop, Sem.run_bind, getObj, Sem.run, h, Result.andThen]
theorem wz_ {l : Nat} {r : Loop} (o : Obj) (h : w.heap[l]? = some (.loop r)) : (setObj l o).run P w = .ok () { w with heap := w.heap.setIfInBounds l o } := by
  simp [Go.setObj, Sem.run, h]
theorem run_begin {l : Nat} {r : Loop} (h : w.heap[l]? = some (.loop r)) (hr : r.state = .ready) : (Instr.beginRound l).run P w = .ok () { w with heap := w.heap.setIfInBounds l (.loop { r with state := .busy }) } := by
  simp [Instr.beginRound, Sem.run_bind, tt_ h, wz_ _ h, Result.andThen, hr]
theorem zu_ {l : Nat} {r : Loop} (j : Option Code) (h : w.heap[l]? = some (.loop r)) :
    (Instr.endRound l j).run P w = .ok (.bool j.isNone) { w with heap := w.heap.setIfInBounds l (.loop { r with state := if j.isNone then .ready else .done, pending := j }) } := by
  simp [Instr.endRound, Sem.run_bind, tt_ h, wz_ _ h, Result.andThen]
theorem run_over {l : Nat} {r : Loop} (h : w.heap[l]? = some (.loop r)) (hb : r.state ≠ .busy) : (Instr.endLoop l).run P w = .ok r.pending { w with heap := w.heap.setIfInBounds l (.loop { r with state := .exhausted }) } := by
  simp [Instr.endLoop, Sem.run_bind, tt_ h, wz_ _ h, Result.andThen, hb]
theorem zs_ {l : Nat} {r : Loop} {args : Array Value} (h : w.heap[l]? = some (.loop r)) (hs : args.size = r.params.size) :
    (Instr.yield l args).run P w = .ok (.round l r.fn ((r.params.zip args).foldl (fun ts (t, a) => ts.setIfInBounds t a) r.tmps) r.assign r.body) w := by
  simp [Instr.yield, Sem.run_bind, tt_ h, Result.andThen, hs]
end
def updL (f : Nat → Value) : List Nat → List Value → Nat → Value
  | p :: ps, u :: us => updL (upv f p u) ps us
  | _, _ => f
def roundFr (f : Fr) (ps : List Nat) (us : List Value) : Fr := ⟨updL f.g ps us, []⟩
theorem wr_ {n : Nat} {f : Fr} : ∀ (ps : List Nat) (us : List Value) (ts : Array Value) (g : Nat → Value), (ps.all fun p => Nat.blt p n) = true → ps.length = us.length → ts.size = n → (∀ i, ts.getD i undef = g i) →
    Fits n { tmps := (ps.zip us).foldl (fun ts (t, a) => ts.setIfInBounds t a) ts, defers := [] } ⟨updL g ps us, []⟩
  | [], [], ts, g, _, _, hsz, hg => ⟨hsz, rfl, hg⟩
  | p :: ps, u :: us, ts, g, hp, hl, hsz, hg => by
    simp only [List.all_cons, Bool.and_eq_true] at hp
    have hfit : Fits n { tmps := ts, defers := [] } ⟨g, []⟩ := ⟨hsz, rfl, hg⟩
    have h1 := hfit.put hp.1 u
    exact wr_ (f := f) ps us (ts.setIfInBounds p u) (upv g p u) hp.2 (by simpa using hl) h1.size h1.at_
  | [], _ :: _, _, _, _, hl, _, _ => by simp at hl
  | _ :: _, [], _, _, _, hl, _, _ => by simp at hl
section
variable {P : Program} {n : Nat} {N R : Fr → World → Prop} {X : Nat → Fr → World → Prop} {f : Fr} {w : World} {S : PH} {O : List HP} {α σ τ : Type} {M : ArgM α}
def rndEnd (P : Program) (l : Nat) (R : Ending → World → Prop) : Exit → Act → World → Prop
  | .normal, _, w => ∃ v w', (Instr.endRound l none).run P w = .ok v w' ∧ R (.returned v) w'
  | .ret, _, w => ∃ v w', (Instr.endRound l (some .ret)).run P w = .ok v w' ∧ R (.returned v) w'
  | .exit i, _, w => ∃ v w', (Instr.endRound l (some (.exit i))).run P w = .ok v w' ∧ R (.returned v) w'
  | _, _, _ => False
theorem round_of {l : Nat} {fn : FuncId} {tmps : Array Value} {assign body : Code} {R : Ending → World → Prop}
    (h : assign.wpIn (FW (some l)) 0 P (fun e a₁ w₁ => e = .normal ∧ ∃ w₂, (Instr.beginRound l).run P w₁ = .ok () w₂ ∧ body.wpIn (FW (some l)) 0 P (rndEnd P l R) a₁ w₂) { tmps := tmps, defers := [] } w) :
    RoundIn (FW none) 0 P l fn tmps assign body w R := by
  refine ⟨trivial, fun c cs _ => ?_⟩
  have hroom : ∀ k, (FW (some l)).room k := FW_room
  let b : Frame := { (default : Frame) with fn := fn, kind := .normal, roundOf := some l }
  have e0 : Frame.round l fn tmps assign body .normal = b.atR { tmps := tmps, defers := [] } [.code assign, .beginRound, .code body] := by simp [Frame.round, Frame.atR, b]
  obtain ⟨e, a₁, w₁, ⟨rfl, w₂, hb, hbody⟩, harr⟩ := h b [.beginRound, .code body] (c :: cs) rfl trivial (hroom _)
  have st : StepsIn (Machine.fenced P (FW none)) P (lone (Frame.round l fn tmps assign body .normal) (c :: cs) w) (lone (b.atR a₁ [.code body]) (c :: cs) w₂) := by
    rw [e0]
    exact StepsIn.trans harr (.one (fenced_calm (F := FW (some l)) (fr := b.atR a₁ [.beginRound, .code body]) (n := 0) trivial (hroom _) rfl) (stepR_beginRound rfl hb))
  obtain ⟨e₂, a₂, w₃, hq, harr₂⟩ := hbody b [] (c :: cs) rfl trivial (hroom _)
  cases e₂ with
  | normal =>
    obtain ⟨v, w₄, hend, hR⟩ := hq
    exact ⟨.returned v, w₄, hR, st.trans (StepsIn.trans harr₂ (.one (fenced_calm (F := FW (some l)) (fr := b.atR a₂ []) (n := 0) trivial (hroom _) rfl) (stepR_round_end rfl rfl hend)))⟩
  | ret =>
    obtain ⟨v, w₄, hend, hR⟩ := hq
    obtain ⟨k, hs⟩ := harr₂.2 rfl
    exact ⟨.returned v, w₄, hR, st.trans (StepsIn.trans hs (.one (fenced_calm (F := FW (some l)) (fr := b.atR a₂ (.code .ret :: k)) (n := 0) trivial (hroom _) rfl) (stepR_round_ret rfl rfl hend)))⟩
  | exit i =>
    obtain ⟨v, w₄, hend, hR⟩ := hq
    obtain ⟨k, hk, hs⟩ := harr₂.2 rfl rfl
    exact ⟨.returned v, w₄, hR, st.trans (StepsIn.trans hs (.one (fenced_calm (F := FW (some l)) (fr := b.atR a₂ (.code (.exit i) :: k)) (n := 0) trivial (hroom _) rfl) (stepR_round_exit rfl rfl hk hend)))⟩
  | goto t => exact hq.elim
  | panic ch => exact hq.elim
  | outgrown => exact hq.elim
def Round (P : Program) (n : Nat) (S : PH) (M : ArgM α) (A : σ → HP) (Ax : τ → HP) (jump : τ → Code) (g : α → σ → Option (σ ⊕ τ)) (assign body : Code) (ps : List Nat) (f : Fr) : Prop :=
  ∀ (l : Nat) (r : Loop) (T : PH) (w : World) (us : List Value) (x : α) (s : σ) (o : σ ⊕ τ) (G : List HP), S.Le T → M.rel T us x → us.length = ps.length → Inv w T (fz_ l r :: (M.own us x ++ (A s :: G))) → g x s = some o →
    WP P n (some l) assign (fun f₁ w₁ => ∃ T₁ L, T.Le T₁ ∧ Inv w₁ T₁ (fz_ l r :: L) ∧ ∀ w₂, Inv w₂ T₁ (fz_ l { r with state := .busy } :: L) →
        WP P n (some l) body (fun _ w₃ => ∃ U s', T.Le U ∧ o = .inl s' ∧ Inv w₃ U (fz_ l { r with state := .busy } :: (M.own us x ++ (A s' :: G))))
          (fun _ w₃ => ∃ U q, T.Le U ∧ o = .inr q ∧ jump q = .ret ∧ Inv w₃ U (fz_ l { r with state := .busy } :: (M.own us x ++ (Ax q :: G))))
          (fun i _ w₃ => ∃ U q, T.Le U ∧ o = .inr q ∧ jump q = .exit i ∧ Inv w₃ U (fz_ l { r with state := .busy } :: (M.own us x ++ (Ax q :: G)))) f₁ w₂)
      (fun _ _ => False) (fun _ _ _ => False) (roundFr f ps us) w
def lo_ (fn : FuncId) (tmps : Array Value) (ps : Array Tmp) (assign body : Code) (D : Nat) (st : LoopState) (j : Option Code) : Loop := { state := st, pending := j, fn, tmps, params := ps, assign, body, defers := D }
theorem yh_ {l D : Nat} {fn : FuncId} {a : Act} {ps : List Nat} {assign body : Code} {A : σ → HP} {Ax : τ → HP} {jump : τ → Code} {g : α → σ → Option (σ ⊕ τ)} (ha : Fits n a f) (hps : (ps.all fun p => Nat.blt p n) = true)
    (hM : ∀ T us x, M.rel T us x → us.length = ps.length) (hround : Round P n S M A Ax jump g assign body ps f) :
    Yields M P S (.func (.yield l) #[] #[]) (fun s => nq_ [fz_ l (lo_ fn a.tmps ps.toArray assign body D .ready none), A s]) (fun q => nq_ [fz_ l (lo_ fn a.tmps ps.toArray assign body D .done (some (jump q))), Ax q]) g := by
  intro T w Fr us x s o hT hrel hI hg
  have hlen := hM T us x hrel
  have hI1 : Inv w T (fz_ l (lo_ fn a.tmps ps.toArray assign body D .ready none) :: (M.own us x ++ (A s :: Fr))) := by
    have h1 : Inv w T (nq_ [fz_ l (lo_ fn a.tmps ps.toArray assign body D .ready none), A s] :: (M.own us x ++ Fr)) := hI.perm List.perm_middle
    have h2 : Inv w T (fz_ l (lo_ fn a.tmps ps.toArray assign body D .ready none) :: A s :: (M.own us x ++ Fr)) := h1.allOpen
    exact h2.perm (List.Perm.cons _ (List.perm_middle (l₁ := M.own us x)).symm)
  have hl := hI1.obj
  refine .inr ⟨l, fn, _, assign, body, rfl, zs_ hl (by simp [lo_, hlen]), round_of ?_⟩
  have hfit := wr_ (f := f) ps us a.tmps f.g hps hlen.symm ha.size ha.at_
  have e1 : ((ps.toArray.zip us.toArray).foldl (fun ts (t, a) => ts.setIfInBounds t a) a.tmps) = (ps.zip us).foldl (fun ts (t, a) => ts.setIfInBounds t a) a.tmps := by
    rw [← Array.foldl_toList]; simp
  show assign.wpIn (FW (some l)) 0 P _ { tmps := ((ps.toArray.zip us.toArray).foldl (fun ts (t, a) => ts.setIfInBounds t a) a.tmps), defers := [] } w
  rw [e1]
  refine Go.wpIn_mono (hround l _ T w us x s o Fr hT hrel hlen hI1 hg _ hfit) fun e a₁ w₁ hq => ?_
  obtain ⟨f₁, hf₁, hq⟩ := hq
  cases e with
  | normal =>
    obtain ⟨T₁, L, hT1, hI2, hb⟩ := hq
    have hl2 := hI2.obj
    refine ⟨rfl, _, run_begin hl2 rfl, Go.wpIn_mono (hb _ (hI2.setObj _) _ hf₁) fun e a₂ w₃ hq => ?_⟩
    obtain ⟨f₂, hf₂, hq⟩ := hq
    cases e with
    | normal =>
      obtain ⟨U, s', hU, rfl, hI3⟩ := hq
      refine ⟨_, _, zu_ none hI3.obj, U, M.own us x ++ [nq_ [fz_ l (lo_ fn a.tmps ps.toArray assign body D .ready none), A s']], hU, ?_, rfl, rfl⟩
      have h4 := hI3.setObj (.loop { (lo_ fn a.tmps ps.toArray assign body D .busy none) with state := .ready, pending := none })
      have h5 : Inv _ U ([fz_ l (lo_ fn a.tmps ps.toArray assign body D .ready none), A s'] ++ (M.own us x ++ Fr)) := h4.perm (List.Perm.cons _ List.perm_middle)
      have h6 := h5.allShut.perm (List.perm_middle (l₁ := M.own us x)).symm
      rw [List.append_assoc]
      exact h6
    | ret =>
      obtain ⟨U, q, hU, rfl, hj, hI3⟩ := hq
      refine ⟨_, _, zu_ (some .ret) hI3.obj, U, M.own us x ++ [nq_ [fz_ l (lo_ fn a.tmps ps.toArray assign body D .done (some (jump q))), Ax q]], hU, ?_, rfl, rfl⟩
      rw [hj]
      have h4 := hI3.setObj (.loop { (lo_ fn a.tmps ps.toArray assign body D .busy none) with state := .done, pending := some .ret })
      have h5 : Inv _ U ([fz_ l (lo_ fn a.tmps ps.toArray assign body D .done (some .ret)), Ax q] ++ (M.own us x ++ Fr)) := h4.perm (List.Perm.cons _ List.perm_middle)
      have h6 := h5.allShut.perm (List.perm_middle (l₁ := M.own us x)).symm
      rw [List.append_assoc]
      exact h6
    | exit i =>
      obtain ⟨U, q, hU, rfl, hj, hI3⟩ := hq
      refine ⟨_, _, zu_ (some (.exit i)) hI3.obj, U, M.own us x ++ [nq_ [fz_ l (lo_ fn a.tmps ps.toArray assign body D .done (some (jump q))), Ax q]], hU, ?_, rfl, rfl⟩
      rw [hj]
      have h4 := hI3.setObj (.loop { (lo_ fn a.tmps ps.toArray assign body D .busy none) with state := .done, pending := some (.exit i) })
      have h5 : Inv _ U ([fz_ l (lo_ fn a.tmps ps.toArray assign body D .done (some (.exit i))), Ax q] ++ (M.own us x ++ Fr)) := h4.perm (List.Perm.cons _ List.perm_middle)
      have h6 := h5.allShut.perm (List.perm_middle (l₁ := M.own us x)).symm
      rw [List.append_assoc]
      exact h6
    | goto t => exact hq.elim
    | panic ch => exact hq.elim
    | outgrown => exact hq.elim
  | ret => exact hq.elim
  | exit i => exact hq.elim
  | goto t => exact hq.elim
  | panic ch => exact hq.elim
  | outgrown => exact hq.elim
theorem run_newO {P : Program} (o : Obj) (w : World) : (newObj o).run P w = .ok w.heap.size (w.alloc o) := rfl
def mark (f : Fr) (D : Nat) : Fr := ⟨f.g, { target := .collected D, args := #[] } :: f.ds⟩
abbrev rcall (g : Operand) (l : Nat) : Call := { callee := .value g, args := #[.const (.func (.yield l) #[] #[])], argTypes := #[] }
theorem step_range {b : Frame} {a : Act} {k : List Item} {cs : List Frame} {g : Operand} {ps : Array Tmp} {assign body : Code} {l : Nat} {mk : List Deferred} {w₁ : World} {d : Deferred} {h : FuncId} {args : Array Value}
    (he : (Instr.enterLoop b.fn a.tmps ps assign body b.roundOf).run P w = .ok (l, mk) w₁) (hres : (resolve a.eval (rcall g l) 0).run P w₁ = .ok d w₁) (hinv : (invoke d.target d.args).run P w₁ = .ok (.enter h args) w₁) :
    step P (lone (b.atR a (.code (.rangeFunc g ps assign body) :: k)) cs w) = .next (lone (Frame.enter P h args .normal) (b.atR { a with defers := mk ++ a.defers } (.inRangeFunc l :: k) :: cs) w₁) := by
  refine step_lone_go ?_
  have hev : (Frame.eval { fn := b.fn, tmps := a.tmps, todo := .inRangeFunc l :: k, defers := mk ++ a.defers, mode := .run, kind := b.kind, roundOf := b.roundOf }) = a.eval := by funext x; cases x <;> rfl
  simp [stepG, stepG.exec, Frame.atR, Sem.runT_eq, he, GStep.bare_after, stepG.apply, hev, Sem.run_bind, hres, hinv, Result.andThen]
theorem step_over {b : Frame} {a : Act} {k : List Item} {cs : List Frame} {l : Nat} {j : Option Code} {w' : World} (h : (Instr.endLoop l).run P w = .ok j w') :
    step P (lone (b.atR a (.endRangeFunc l :: k)) cs w) = .next (lone (b.atR a ((j.map Item.code).toList ++ k)) cs w') :=
  step_lone_go (by simp [stepG, stepG.exec, Frame.atR, Sem.runT_eq, h, GStep.bare_after])
def Jumps (N R : Fr → World → Prop) (X : Nat → Fr → World → Prop) (f : Fr) (w : World) : Option Code → Prop
  | none => N f w
  | some .ret => R f w
  | some (.exit i) => X i f w
  | _ => False
theorem range_core {b : Frame} {a : Act} {k : List Item} {cs : List Frame} {g : Operand} {ps : List Nat} {assign body : Code} {kf : FuncId} {fst cap : List Value} {A : σ → HP} {Ax : τ → HP} {jump : τ → Code} {gb : α → σ → Option (σ ⊕ τ)}
    {l D : Nat} {mk : List Deferred} {w₁ : World} {G : List HP} {s0 : σ} {o : σ ⊕ τ} {f' : Fr} (ha : Fits n a f) (hg : ev f g = .func (.func kf) fst.toArray cap.toArray) (hk : ax_ P kf) (hb : b.roundOf = ro)
    (he : (Instr.enterLoop b.fn a.tmps ps.toArray assign body ro).run P w = .ok (l, mk) w₁)
    (hcall : ∀ v, v = .func (.yield l) #[] #[] → Calls P kf (fst ++ v :: cap).toArray w₁ (lp_ S G fun _ _ O' => O' = [Sum.elim (fun s => nq_ [fz_ l (lo_ b.fn a.tmps ps.toArray assign body D .ready none), A s]) (fun q => nq_ [fz_ l (lo_ b.fn a.tmps ps.toArray assign body D .done (some (jump q))), Ax q]) o]))
    (hf' : Fits n { a with defers := mk ++ a.defers } f')
    (kont : ∀ w' U, S.Le U → Inv w' U (Sum.elim A Ax o :: G) → Jumps N R X f' w' (Sum.elim (fun _ => none) (fun q => some (jump q)) o)) :
    ∃ e a' w', Ends n N R X e a' w' ∧ ArrivesIn (Machine.fenced P (FW ro)) P (lone (b.atR a (.code (.rangeFunc g ps.toArray assign body) :: k)) cs w) b k cs e a' w' := by
  obtain ⟨fn, h1, h2, h3⟩ := id hk
  have h3' : fn.name ≠ "runtime.NumGoroutine" := by simpa using h3
  have h2' : fn.body ≠ none := by intro e; rw [e] at h2; cases h2
  have hroom : ∀ k, (FW ro).room k := FW_room
  have hfen : ∀ m : Machine, m.fenced P (FW ro) := fun m => fenced_wide P m
  have hinv : (invoke (.fn (.func kf) cap.toArray) (fst.toArray ++ #[.func (.yield l) #[] #[]])).run P w₁ = .ok (.enter kf (fst ++ .func (.yield l) #[] #[] :: cap).toArray) w₁ := by
    simp [invoke, callFunc, h1]
    rw [if_neg h3', if_neg h2']
  have hres : (resolve a.eval (rcall g l) 0).run P w₁ = .ok { target := .fn (.func kf) cap.toArray, args := fst.toArray ++ #[.func (.yield l) #[] #[]] } w₁ := by
    rw [ha.eval]
    have e0 : ev f (.const (.func (.yield l) #[] #[])) = .func (.yield l) #[] #[] := rfl
    simp [resolve, rcall, hg, Deferred.ofValue, e0]
  have henter := step_range (P := P) (b := b) (a := a) (k := k) (cs := cs) (w := w) (g := g) (by rw [hb]; exact he) hres hinv
  obtain ⟨e, w₂, fr, hR, hsteps, _, hleave⟩ := hcall _ rfl (b.atR { a with defers := mk ++ a.defers } (.inRangeFunc l :: k) :: cs)
  cases e with
  | panicked c => exact hR.elim
  | outgrown => exact hR.elim
  | returned v =>
    obtain ⟨U, O', hU, hI, rfl⟩ := hR
    have hs0 : Steps P (lone (b.atR a (.code (.rangeFunc g ps.toArray assign body) :: k)) cs w) (lone (b.atR { a with defers := mk ++ a.defers } (.endRangeFunc l :: k)) cs w₂) := by
      refine Steps.trans (.one henter) (Steps.trans hsteps (.one ?_))
      have := step_leave_returned (P := P) (c := b.atR { a with defers := mk ++ a.defers } (.inRangeFunc l :: k)) (cs := cs) hleave
      rw [this]
      simp [Frame.finish, Frame.atR]
    have hsIn : StepsIn (Machine.fenced P (FW ro)) P (lone (b.atR a (.code (.rangeFunc g ps.toArray assign body) :: k)) cs w) (lone (b.atR { a with defers := mk ++ a.defers } (.endRangeFunc l :: k)) cs w₂) :=
      (stepsIn_wide (P := P)).2 hs0
    have fin : ∀ (j : Option Code) (st : LoopState) (C : HP), st ≠ .busy → Inv w₂ U (nq_ [fz_ l (lo_ b.fn a.tmps ps.toArray assign body D st j), C] :: G) → (∀ w', Inv w' U (C :: G) → Jumps N R X f' w' j) →
        ∃ e a' w', Ends n N R X e a' w' ∧ ArrivesIn (Machine.fenced P (FW ro)) P (lone (b.atR a (.code (.rangeFunc g ps.toArray assign body) :: k)) cs w) b k cs e a' w' := by
      intro j st C hst hI1 hj
      have hI2 : Inv w₂ U (fz_ l (lo_ b.fn a.tmps ps.toArray assign body D st j) :: C :: G) := hI1.allOpen
      have hov := run_over (P := P) hI2.obj hst
      have hI3 := (hI2.setObj (.loop { lo_ b.fn a.tmps ps.toArray assign body D st j with state := .exhausted })).drop
      have hJ := hj _ hI3
      have hst2 := hsIn.trans (.one (hfen _) (step_over (b := b) (a := { a with defers := mk ++ a.defers }) (k := k) (cs := cs) hov))
      cases j with
      | none => exact ⟨.normal, _, _, ⟨f', hf', hJ⟩, hst2⟩
      | some c =>
        cases c with
        | ret =>
          obtain ⟨e', a'', w₅, hq, harr⟩ := Go.wpIn_ret (F := FW ro) (n := 0) (P := P) (Q := Ends n N R X) (⟨f', hf', hJ⟩ : Ends n N R X .ret { a with defers := mk ++ a.defers } _) b k cs hb trivial (hroom _)
          exact ⟨e', a'', w₅, hq, .of_steps hst2 harr⟩
        | exit i =>
          obtain ⟨e', a'', w₅, hq, harr⟩ := Go.wpIn_exit (F := FW ro) (n := 0) (P := P) (Q := Ends n N R X) (⟨f', hf', hJ⟩ : Ends n N R X (.exit i) { a with defers := mk ++ a.defers } _) b k cs hb trivial (hroom _)
          exact ⟨e', a'', w₅, hq, .of_steps hst2 harr⟩
        | _ => exact hJ.elim
    cases o with
    | inl s' => exact fin none .ready (A s') (by simp) hI (fun w' h => kont w' U hU h)
    | inr q => exact fin (some (jump q)) .done (Ax q) (by simp) hI (fun w' h => kont w' U hU h)
theorem oz_ {g : Operand} {ps : List Nat} {assign body : Code} {gv : Value} {F : ∀ {σ τ : Type}, (α → σ → Option (σ ⊕ τ)) → σ → Option (σ ⊕ τ)} (A : σ → HP) (Ax : τ → HP) (jump : τ → Code) {gb : α → σ → Option (σ ⊕ τ)} {s0 : σ} {o : σ ⊕ τ}
    (hg : ev f g = gv) (hps : (ps.all fun p => Nat.blt p n) = true) (hM : ∀ T us x, M.rel T us x → us.length = ps.length) (hIt : ItV M P S gv @F) (hI : Inv w S (A s0 :: O)) (hrun : F gb s0 = some o)
    (hround : Round P n S M A Ax jump gb assign body ps f)
    (kont : ∀ D w' U, S.Le U → Inv w' U (Sum.elim A Ax o :: Dfr D :: O) → Jumps N R X (mark f D) w' (Sum.elim (fun _ => none) (fun q => some (jump q)) o)) : WP P n none (.rangeFunc g ps.toArray assign body) N R X f w := by
  obtain ⟨kf, fst, cap, rfl, hk, hcall⟩ := hIt
  intro a ha b k cs hb _ _
  have h1 := hI.new (.deferred (some []))
  have h2 := h1.new (.loop (lo_ b.fn a.tmps ps.toArray assign body w.heap.size .ready none))
  have hsz : (w.alloc (.deferred (some []))).heap.size = w.heap.size + 1 := by simp
  rw [hsz] at h2
  refine range_core (ro := none) (D := w.heap.size) (l := w.heap.size + 1) (mk := [{ target := .collected w.heap.size, args := #[] }]) (w₁ := (w.alloc (.deferred (some []))).alloc (.loop (lo_ b.fn a.tmps ps.toArray assign body w.heap.size .ready none))) (G := Dfr w.heap.size :: O) (f' := mark f w.heap.size) (gb := gb) (s0 := s0) ha hg hk hb ?_ ?_ ⟨ha.size, congrArg _ ha.defers, ha.at_⟩ (fun w' U hU h => kont _ w' U hU h)
  · unfold Instr.enterLoop
    simp only [Sem.run_bind, run_newO, Result.andThen, Sem.run_pure, World.size_alloc]
    rfl
  · rintro v rfl
    refine hcall _ _ gb S _ _ _ s0 o (PH.Le.refl S) rfl (yh_ ha hps hM hround) ?_ hrun
    refine Inv.allShut (h2.perm ?_)
    exact List.Perm.cons _ (List.Perm.swap _ _ _)
end
def ph_ (Ds : List Nat) : HP := nq_ (Ds.map Dfr)
section
variable {w : World} {S : PH} {O : List HP}
theorem Inv.noD (h : Inv w S O) : Inv w S (ph_ [] :: O) := Inv.allShut (L := []) h
theorem Inv.consD {D : Nat} {Ds : List Nat} (h : Inv w S (Dfr D :: ph_ Ds :: O)) : Inv w S (ph_ (D :: Ds) :: O) := by
  have h1 : Inv w S (ph_ Ds :: Dfr D :: O) := h.swap
  have h2 : Inv w S (Ds.map Dfr ++ (Dfr D :: O)) := h1.allOpen
  exact Inv.allShut (h2.perm List.perm_middle)
theorem xa_ {P : Program} {fn : Func} {n : Nat} {R : Ending → World → Prop} {f : Fr} : ∀ {Ds : List Nat} {w : World}, f.ds = mkDs Ds → Inv w S (ph_ Ds :: O) → (∀ w', Inv w' S O → ∃ v, wn_ P fn n f w' v ∧ R (.returned v) w') → RetM P fn n R f w := by
  intro Ds w hds hI k
  refine ⟨Ds, hds, ?_⟩
  clear hds
  induction Ds generalizing w with
  | nil => exact k w (Inv.allOpen (L := []) hI)
  | cons D Ds ih =>
    have h1 : Inv w S (Dfr D :: (Ds.map Dfr ++ O)) := hI.allOpen
    refine ⟨h1.obj, ih ?_⟩
    exact Inv.allShut (h1.setObj (.deferred none)).drop
end
section
variable {w : World} {S : PH} {O : List HP} {A B C : HP}
theorem Inv.rot2 (h : Inv w S (A :: B :: C :: O)) : Inv w S (B :: C :: A :: O) := h.perm ((List.Perm.swap _ _ _).trans (List.Perm.cons _ (List.Perm.swap _ _ _)))
theorem my_ {τ σ : Type} {N R : Fr → World → Prop} {X : Nat → Fr → World → Prop} {f : Fr} {k : τ → Option Code} {s : σ} (h : N f w) : Jumps N R X f w (Sum.elim (fun _ => none) k (.inl s)) := h
theorem jumps_ret {τ σ : Type} {N R : Fr → World → Prop} {X : Nat → Fr → World → Prop} {f : Fr} {q : τ} (h : R f w) : Jumps N R X f w (Sum.elim (fun (_ : σ) => none) (fun (_ : τ) => some Code.ret) (.inr q)) := h
theorem qg_ {f : Fr} {D : Nat} {Ds : List Nat} (h : f.ds = mkDs Ds) : (mark f D).ds = mkDs (D :: Ds) := congrArg _ h
end
def sm {σ τ ρ : Type} (o : σ ⊕ τ) (a : σ → Option ρ) (b : τ → Option ρ) : Option ρ := match o with
  | .inl s => a s
  | .inr q => b q
def onE {σ ρ : Type} (o : σ ⊕ Empty) (a : σ → Option ρ) : Option ρ := match o with
  | .inl s => a s
theorem pg_ {α : Type} [Enc α] {T0 : TypeId} {p : Nat} : ∀ (T : PH) us x, (rx_ α T0).rel T us x → us.length = [p].length := by
  rintro T us x ⟨a, n, k, rfl⟩; rfl
theorem zm_ {p q : Nat} : ∀ (T : PH) us x, argII.rel T us x → us.length = [p, q].length := by
  intro T us x h; rw [show us = [_, _] from h]; rfl
theorem su_ {S : PH} {v : Value} {x : Raw} (h : RV S v x) : v = x.v := by
  obtain ⟨cs, ⟨rfl, _⟩, rfl⟩ := h; rfl
theorem nj_ {S : PH} {v : Value} (h : v.oneCell' = true) : RV S v (⟨v⟩ : Raw) := ⟨[v], ⟨rfl, h⟩, rfl⟩
structure ORef (α : Type) where
  o : Option α
instance {α : Type} [Enc α] : Enc (ORef α) where
  agg := false
  sz := 1
  rep S cs x := match x.o with
    | none => cs = [.pointer none]
    | some y => ∃ a, cs = [.pointer (some a)] ∧ PtS S (.pointer (some a)) y
  len {S cs x} h := by
    cases hx : x.o with
    | none => rw [hx] at h; rw [h]; rfl
    | some y => rw [hx] at h; obtain ⟨a, e, _⟩ := h; rw [e]; rfl
  one _ := rfl
  cell1 {S cs x} h := by
    cases hx : x.o with
    | none => rw [hx] at h; intro v hv; rw [h] at hv; simp at hv; subst hv; rfl
    | some y => rw [hx] at h; obtain ⟨a, e, _⟩ := h; intro v hv; rw [e] at hv; simp at hv; subst hv; rfl
  mono {S T cs x} hle h := by
    cases hx : x.o with
    | none => rw [hx] at h; exact h
    | some y => rw [hx] at h; obtain ⟨a, e, p⟩ := h; exact ⟨a, e, p.mono hle⟩
theorem sc_ {α : Type} [Enc α] {S : PH} {v : Value} {x : ORef α} {y : α} (h : RV S v x) (hy : x.o = some y) : PtS S v y := by
  obtain ⟨cs, hr, rfl⟩ := h
  have hr' : (match x.o with | none => cs = [.pointer none] | some y => ∃ a, cs = [.pointer (some a)] ∧ PtS S (.pointer (some a)) y) := hr
  rw [hy] at hr'
  obtain ⟨a, rfl, p⟩ := hr'
  exact p
theorem rv_oref' {α : Type} [Enc α] {S : PH} {v : Value} {x : α} (h : PtS S v x) : RV S v (⟨some x⟩ : ORef α) := by
  obtain ⟨a, cs, rfl, h1, h2⟩ := h
  exact ⟨[.pointer (some a)], ⟨a, rfl, a, cs, rfl, h1, h2⟩, rfl⟩
theorem nk_ {α : Type} [Enc α] {S : PH} : RV S (.pointer none) (⟨none⟩ : ORef α) := ⟨[.pointer none], rfl, rfl⟩
def FnV2 (P : Program) (S : PH) (v : Value) (g : Int → Int → Option Bool) : Prop :=
  ∃ (k : FuncId) (cap : List Value), v = .func (.func k) #[] cap.toArray ∧ ax_ P k ∧ ∀ T w Fr a b r, S.Le T → Inv w T Fr → g a b = some r → Calls P k (.int .i64 a :: .int .i64 b :: cap).toArray w (bw_ T Fr (.bool r))
theorem FnV2.mono {P : Program} {S T : PH} {v : Value} {g : Int → Int → Option Bool} (h : FnV2 P S v g) (hle : S.Le T) : FnV2 P T v g := by
  obtain ⟨k, cap, h1, h2, h3⟩ := h
  exact ⟨k, cap, h1, h2, fun U w Fr a b r hu => h3 U w Fr a b r (hle.trans hu)⟩
theorem FnV2.one {P : Program} {S : PH} {v : Value} {g : Int → Int → Option Bool} (h : FnV2 P S v g) : v.oneCell' = true := by
  obtain ⟨k, cap, rfl, _⟩ := h; rfl
theorem FnV.one {α : Type} [Enc α] {P : Program} {S : PH} {v : Value} {g : α → Option Bool} (h : FnV P S v g) : v.oneCell' = true := by
  obtain ⟨k, cap, rfl, _⟩ := h; rfl
theorem zx_ {P : Program} {n d : Nat} {f : Fr} {w : World} {K : Fr → World → Prop} {ty : TypeId} {pos : String} {af : Array Edge} {gd : Option (Nat × Bool)} {x y z : Operand} {ct : Array TypeId} {S : PH} {O : List HP} {v : Value} {g : Int → Int → Option Bool} {a b : Int} {r : Bool}
    (hd : Nat.blt d n = true) (hx : ev f x = v) (hv : FnV2 P S v g) (hy : ev f y = .int .i64 a) (hz : ev f z = .int .i64 b) (hr : g a b = some r) (hI : Inv w S O) (kont : ∀ w', Inv w' S O → K (upd f d (.bool r)) w') :
    OP P n ro ⟨some d, .call ⟨.value x, #[y, z], ct⟩, ty, pos, af, gd⟩ f w K := by
  obtain ⟨k, cap, rfl, h2, h3⟩ := hv
  exact uu_ (vs := .int .i64 a :: .int .i64 b :: cap) hd h2 hx (by simp [hy, hz]) hI (fun Fr hFr => h3 S w Fr a b r (PH.Le.refl S) hFr hr) kont
def vq_ {α : Type} [Enc α] (T : TypeId) (g : Nat) (l : List α) : HP where
  p S h := ∃ ls : List Value, h = Hp.one g (.cells ls.toArray T (0, 0)) ∧ RepL S ls l
  mono hle h := by obtain ⟨ls, e, r⟩ := h; exact ⟨ls, e, r.mono hle⟩
section
variable {α : Type} [Enc α] {w : World} {S : PH} {O : List HP} {T : TypeId} {g : Nat} {l : List α}
theorem Inv.arrNew {cs : Array Value} {zc : List Value} {zd : α} {k : Nat} (h : Inv w S (am_ g T cs :: O)) (hcs : cs = ((List.replicate k zc).flatten).toArray) (hz : ∀ S, Enc.rep S zc zd) : Inv w S (vq_ T g (List.replicate k zd) :: O) := by
  subst hcs
  exact h.headMap fun q hq => ⟨_, hq, RepL.replicate (hz S) k⟩
theorem Inv.arrElem (h : Inv w S (vq_ T g l :: O)) {i : Int} {x : α} (hx : at? l i = some x) : PtT w S (.pointer (some ⟨g, i.toNat * Enc.sz α, none⟩)) x := by
  obtain ⟨k, ⟨ls, rfl, hr⟩, hI⟩ := h.open_
  obtain ⟨h0, hlt, hx'⟩ := df_ hx
  obtain ⟨A, es, B, e, hA, hrep, _⟩ := hr.cut hx'
  have hb := hI.front g (.cells ls.toArray T (0, 0)) (by simp [Hp.one])
  refine ⟨_, es, rfl, hrep, fun j u hu => ?_⟩
  rw [hv_, cell_of_row w g _ _ T (0, 0) hb]
  simp only [List.getElem?_toArray]
  rw [e, ← hA, List.getElem?_append_right (by omega), Nat.add_sub_cancel_left, List.getElem?_append_left (List.getElem?_eq_some_iff.1 hu).1]
  exact hu
variable {P : Program} {n : Nat} {f : Fr} {K : Fr → World → Prop} {d : Nat} {ty : TypeId} {pos : String} {af : Array Edge} {gd : Option (Nat × Bool)} {x y : Operand} {u : Value} {E A : TypeId} {k : Nat}
theorem jj_ {i : Int} {e : α} (hd : Nat.blt d n = true) (hT : P.underlying A = some (.array k E)) (hE : Shape P E (Enc.agg α) (Enc.sz α)) (hk : l.length = k) (hx : ev f x = .pointer (some ⟨g, 0, none⟩)) (hi : ev f y = .int .i64 i) (he : at? l i = some e)
    (c : K (upd f d (.pointer (some ⟨g, i.toNat * Enc.sz α, none⟩))) w) : OP P n ro ⟨some d, .indexAddr A x y, ty, pos, af, gd⟩ f w K := by
  obtain ⟨h0, hlt, _⟩ := df_ he
  refine dd_ hd ?_ c
  have h1 : 0 ≤ i ∧ i < (k : Int) := ⟨h0, by omega⟩
  simp [execOp, hx, hi, Instr.indexAt, asIntOf, Instr.sureAddr, run_underlying hT, h1, hE.size w, hv_]
theorem us_ {i : Int} {e e' : α} (hT : Shape P E (Enc.agg α) (Enc.sz α)) (hI : Inv w S (vq_ T g l :: O)) (hx : ev f x = .pointer (some ⟨g, i.toNat * Enc.sz α, none⟩)) (hy : ev f y = u) (he : at? l i = some e) (hu : RV S u e')
    (c : ∀ w', Inv w' S (vq_ T g (l.set i.toNat e') :: O) → K f w') : OP P n ro ⟨none, .store E x y, ty, pos, af, gd⟩ f w K := by
  obtain ⟨q, ⟨ls, rfl, hr⟩, hI'⟩ := hI.open_
  obtain ⟨h0, hlt, hx'⟩ := df_ he
  obtain ⟨A, es, B, rfl, hA, hrep, hset⟩ := hr.cut hx'
  have huc := hu.cells
  have hl := Enc.len huc
  obtain ⟨w', hst, hI''⟩ := gc_ (P := P) hI' (by rw [Enc.len hrep, hl]) (fun q hq => Enc.cell1 huc q hq)
  refine zv_ (w' := w') ?_ (c w' (hI''.shut (A := vq_ T g _) ⟨_, rfl, hset _ _ huc⟩))
  rw [hA] at hst
  have hs : u.cells.size = Enc.sz α := by rw [← Array.length_toList]; exact hl
  simp [execOp, hx, hy, Instr.storeAt, Instr.sureAddr, storeVar, hT.size w, hs, hst]
end
section
variable {α : Type} [Enc α] {w : World} {S : PH} {O : List HP} {To Ti : TypeId} {v : Value} {raws : List Raw} {ls : List (List α)}
def jq_ (Ti : TypeId) (raws : List Raw) (ls : List (List α)) (i : Nat) : HP := nq_ ((ca_ Ti raws ls).eraseIdx i)
theorem ml_ : ∀ (raws : List Raw) (ls : List (List α)) (i : Nat) (r : Raw) (l : List α), raws[i]? = some r → ls[i]? = some l → (ca_ Ti raws ls).Perm (Row Ti r.v l :: (ca_ Ti raws ls).eraseIdx i)
  | [], _, _, _, _, h, _ => by simp at h
  | _ :: _, [], _, _, _, _, h => by simp at h
  | a :: raws, b :: ls, 0, r, l, h, k => by
    simp at h k
    subst h; subst k
    exact .refl _
  | a :: raws, b :: ls, i + 1, r, l, h, k => by
    have := ml_ raws ls i r l (by simpa using h) (by simpa using k)
    exact (List.Perm.cons _ this).trans (List.Perm.swap _ _ _)
theorem rq_ : ∀ (raws : List Raw) (ls : List (List α)) (i : Nat) (r : Raw) (l : List α), (ca_ Ti (raws.set i r) (ls.set i l)).eraseIdx i = (ca_ Ti raws ls).eraseIdx i
  | [], _, _, _, _ => by simp [ca_]
  | _ :: _, [], _, _, _ => by simp [ca_]
  | a :: raws, b :: ls, 0, r, l => rfl
  | a :: raws, b :: ls, i + 1, r, l => by
    have := rq_ raws ls i r l
    simp only [ca_] at this
    simp [ca_, this]
theorem Inv.gridTake {i : Int} {r : Raw} {l : List α} (h : Inv w S (fe_ To Ti v raws ls :: O)) (hr : at? raws i = some r) (hl : at? ls i = some l) : Inv w S (Row Ti r.v l :: Row To v raws :: jq_ Ti raws ls i.toNat :: O) := by
  have h1 : Inv w S (Row To v raws :: (ca_ Ti raws ls ++ O)) := h.allOpen
  have hp := ml_ (Ti := Ti) raws ls i.toNat r l (df_ hr).2.2 (df_ hl).2.2
  have h2 : Inv w S ((ca_ Ti raws ls).eraseIdx i.toNat ++ (Row Ti r.v l :: Row To v raws :: O)) := by
    refine h1.perm ?_
    refine (List.Perm.cons _ (hp.append_right O)).trans ?_
    refine (List.Perm.swap _ _ _).trans ?_
    refine List.Perm.trans ?_ List.perm_middle.symm
    refine List.Perm.cons _ ?_
    exact List.perm_middle.symm
  have h3 : Inv w S (jq_ Ti raws ls i.toNat :: Row Ti r.v l :: Row To v raws :: O) := Inv.allShut h2
  exact h3.rot2
theorem Inv.gridGive {i : Int} {r r' : Raw} {l l' : List α} (hr : at? raws i = some r) (hl : at? ls i = some l) (h : Inv w S (Row Ti r'.v l' :: Row To v (raws.set i.toNat r') :: jq_ Ti raws ls i.toNat :: O)) : Inv w S (fe_ To Ti v (raws.set i.toNat r') (ls.set i.toNat l') :: O) := by
  obtain ⟨_, h1, h1'⟩ := df_ hr
  obtain ⟨_, h2, h2'⟩ := df_ hl
  have hp := ml_ (Ti := Ti) (raws.set i.toNat r') (ls.set i.toNat l') i.toNat r' l' (by simp [h1]) (by simp [h2])
  rw [rq_] at hp
  have h3 : Inv w S (jq_ Ti raws ls i.toNat :: Row Ti r'.v l' :: Row To v (raws.set i.toNat r') :: O) := h.rot2.rot2
  have h4 : Inv w S ((ca_ Ti raws ls).eraseIdx i.toNat ++ (Row Ti r'.v l' :: Row To v (raws.set i.toNat r') :: O)) := h3.allOpen
  refine Inv.allShut (h4.perm ?_)
  refine List.perm_middle.trans ?_
  refine (List.Perm.cons _ List.perm_middle).trans ?_
  refine (List.Perm.swap _ _ _).trans (List.Perm.cons _ ?_)
  exact (hp.symm.append_right O)
theorem Inv.gridAdd {r : Raw} {l : List α} (hlen : raws.length = ls.length) (h : Inv w S (Row To v (raws ++ [r]) :: Row Ti r.v l :: nq_ (ca_ Ti raws ls) :: O)) : Inv w S (fe_ To Ti v (raws ++ [r]) (ls ++ [l]) :: O) := by
  have e : ca_ Ti (raws ++ [r]) (ls ++ [l]) = ca_ Ti raws ls ++ [Row Ti r.v l] := by
    unfold ca_; rw [List.zipWith_append hlen]; rfl
  have h1 : Inv w S (nq_ (ca_ Ti raws ls) :: Row To v (raws ++ [r]) :: Row Ti r.v l :: O) := (h.rot2).rot2
  have h2 : Inv w S (ca_ Ti raws ls ++ (Row To v (raws ++ [r]) :: Row Ti r.v l :: O)) := h1.allOpen
  refine Inv.allShut (h2.perm ?_)
  rw [e]
  refine List.perm_middle.trans (List.Perm.cons _ ?_)
  show (ca_ Ti raws ls ++ Row Ti r.v l :: O).Perm ((ca_ Ti raws ls ++ [Row Ti r.v l]) ++ O)
  rw [List.append_assoc]
  exact .refl _
theorem Inv.gridParts (h : Inv w S (fe_ To Ti v raws ls :: O)) : Inv w S (Row To v raws :: nq_ (ca_ Ti raws ls) :: O) := by
  have h1 : Inv w S (Row To v raws :: (ca_ Ti raws ls ++ O)) := h.allOpen
  have h2 : Inv w S (ca_ Ti raws ls ++ (Row To v raws :: O)) := h1.perm List.perm_middle.symm
  exact (Inv.allShut h2).swap
end
section
variable {α : Type} {raws : List Raw} {ls : List (List α)}
theorem nn_ {i : Int} {l : List α} (hlen : raws.length = ls.length) (h : at? ls i = some l) : ∃ r, at? raws i = some r := by
  obtain ⟨h0, h1, _⟩ := df_ h
  refine ⟨raws[i.toNat]'(by omega), ?_⟩
  unfold at?; rw [if_pos h0, List.getElem?_eq_getElem]
theorem mk?_raw {c : Int} {l : List (List α)} (h : mk? c ([] : List α) = some l) : mk? c (⟨.slice none 0 0⟩ : Raw) = some (List.replicate c.toNat ⟨.slice none 0 0⟩) ∧ l = List.replicate c.toNat [] := by
  obtain ⟨h1, h2, h3⟩ := mk?_some h
  exact ⟨by unfold mk?; rw [if_pos ⟨h1, h2⟩], h3⟩
theorem yt_ {l m r : List (List α)} {xs ys : List Raw} (h : push? l m = some r) (hx : xs.length = l.length) (hy : ys.length = m.length) : push? xs ys = some (xs ++ ys) := by
  obtain ⟨h1, _⟩ := kl_ h
  unfold push?; rw [if_pos (by omega)]
end
section
variable {P : Program} {fn : Func} {n t t2 g : Nat} {T B : TypeId} {f : Fr} {w : World} {S : PH} {O : List HP} {c v2 : Value}
theorem resC1 (h : fn.results = #[.cell t T]) (hf : f t = .pointer (some ⟨g, 0, none⟩)) (hT : Shape P T false 1) (hI : Inv w S (am_ g B #[c] :: O)) : wn_ P fn n f w c := by
  intro a ha
  have hc := hI.cell 0
  have e := ha.at_ t
  rw [hf] at e
  simp only [Array.getD_eq_getD_getElem?] at e
  simp at hc
  simp [results, h, e, asAddr, loadVar, hT.agg w, load, hc, Sem.run]
theorem res2c1 (h : fn.results = #[.cell t T, .tmp t2]) (hf : f t = .pointer (some ⟨g, 0, none⟩)) (hT : Shape P T false 1) (hI : Inv w S (am_ g B #[c] :: O)) (h2 : f t2 = v2) : wn_ P fn n f w (.tuple #[c, v2]) := by
  intro a ha
  have hc := hI.cell 0
  have e := ha.at_ t
  have e2 := ha.at_ t2
  rw [hf] at e
  rw [h2] at e2
  simp only [Array.getD_eq_getD_getElem?] at e e2
  simp at hc
  simp [results, h, e, e2, asAddr, loadVar, hT.agg w, load, hc, Sem.run]
end
theorem pf_ {f : Fr} {args : Array Operand} {vs : List Value} {cap : Array Value} (h : args.map (ev f) ++ #[] = vs.toArray) : args.map (ev f) ++ cap = (vs ++ cap.toList).toArray := by
  rw [Array.append_empty] at h
  rw [h]
  simp
theorem yn_ {σ τ ρ : Type} {s : σ} {a : σ → Option ρ} {b : τ → Option ρ} {r : ρ} (h : sm (.inl s) a b = some r) : a s = some r := h
theorem ym_ {σ τ ρ : Type} {q : τ} {a : σ → Option ρ} {b : τ → Option ρ} {r : ρ} (h : sm (.inr q) a b = some r) : b q = some r := h
theorem uv_ {σ ρ : Type} {s : σ} {a : σ → Option ρ} {r : ρ} (h : onE (.inl s) a = some r) : a s = some r := h
theorem tw_ {α : Type} {raws : List Raw} {ls : List (List α)} {i j : Nat} {r : Raw} {l : List α} (h : raws.length = ls.length) : (raws.set i r).length = (ls.set j l).length := by simp [h]
theorem grid_new {α : Type} {c : Nat} {l : List (List α)} (h : l = List.replicate c []) : (List.replicate c (⟨.slice none 0 0⟩ : Raw)).length = l.length := by simp [h]
section
variable {α : Type} [Enc α] {P : Program} {n : Nat} {f : Fr} {w : World} {K : Fr → World → Prop} {d : Nat} {ty : TypeId} {pos : String} {af : Array Edge} {gd : Option (Nat × Bool)} {x : Operand} {T Tr : TypeId} {S : PH} {O : List HP} {To Ti : TypeId} {v : Value} {raws : List Raw} {ls : List (List α)}
theorem Inv.gridNil (h : Inv w S O) : Inv w S (fe_ (α := α) To Ti (.slice none 0 0) [] [] :: O) :=
  Inv.allShut (L := [Row To (.slice none 0 0) ([] : List Raw)]) h.rowNil
end
theorem sr_ {a b : Nat} (h : a = b) : a = b := h
theorem set_len {α : Type} {l : List α} {k i : Nat} {x : α} (h : l.length = k) : (l.set i x).length = k := by simp [h]
theorem grid_set1 {α : Type} {raws : List Raw} {ls : List (List α)} {j : Nat} {l : List α} (h : raws.length = ls.length) : raws.length = (ls.set j l).length := by simp [h]
theorem zc_ {α : Type} {raws : List Raw} {ls ls' : List (List α)} {r : Raw} {l : List α} (h : raws.length = ls.length) (e : ls' = ls ++ [l]) : (raws ++ [r]).length = ls'.length := by subst e; simp [h]
def jn2 {α β ρ : Type} (p : α × β) (f : α → β → Option ρ) : Option ρ := f p.1 p.2
theorem jn2s {α β ρ : Type} {a : α} {b : β} {f : α → β → Option ρ} {r : ρ} (h : jn2 (a, b) f = some r) : f a b = some r := h
theorem arr5 {f : Fr} {x y z a b : Operand} {v u t s r : Value} (h : ev f x = v) (h2 : ev f y = u) (h3 : ev f z = t) (h4 : ev f a = s) (h5 : ev f b = r) : (#[x, y, z, a, b].map (ev f)) = #[v, u, t, s, r] := by simp [h, h2, h3, h4, h5]
abbrev pt_ (g : Nat) : Value := .pointer (some ⟨g, 0, none⟩)
abbrev vi (n : Int) : Value := .int .i64 n
abbrev vb (b : Bool) : Value := .bool b
abbrev lrg (n : Nat) : List Nat := List.range n
theorem lr {S : PH} : S.Le S := PH.Le.refl S
abbrev spV (d : Nat) (l : List Nat) (k : Nat) (v : Value) : Sp := ⟨some d, l, [k], fun vs_ _ => fr0 vs_ 0 = v, [], [], [], fun _ h_ => h_⟩
abbrev spR {α : Type} [Enc α] (d : Nat) (l : List Nat) (k : Nat) (v : α) : Sp := ⟨some d, l, [k], fun vs_ T_ => RV T_ (fr0 vs_ 0) v, [], [], [], fun hle_ h_ => h_.mono hle_⟩
abbrev spW (d : Nat) (l ks : List Nat) (v : List Value → Value) : Sp := ⟨some d, l, ks, fun vs_ _ => fr0 vs_ 0 = v vs_, [], [], [], fun _ h_ => h_⟩
theorem fn {A : Value → Prop} {B C : Value → PH → Prop} {S : PH} {v : Value} (a : A v) (b : B v S) (c : C v S) : ∃ v S', A v ∧ S.Le S' ∧ B v S' ∧ C v S' := ⟨v, S, a, lr, b, c⟩
theorem nb {a b : Nat} (h : Nat.ble a b = true := by rfl) : a ≤ b := Nat.le_of_ble_eq_true h
theorem sj {α : Type} {a b : α} (h : some a = some b) : a = b := Option.some.inj h
theorem AllP.u {l : List Nat} {sps : List Sp} {f : Fr} {vals : Nat → Value} {S' : PH} (h : AllP l (fun j => ∀ t, sps[j]? = some t → (∀ d, t.dst = some d → f d = vals j) ∧ t.fact (t.deps.map vals) S')) (i : Nat) {a d : Nat} {t : Sp} {x : Value}
    (e : l[i]? = some a) (e2 : sps[a]? = some t) (e3 : (t.dst, t.fact (t.deps.map vals) S') = (some d, vals a = x)) : f d = x := by
  obtain ⟨h1, h2⟩ := h.at_ i e t e2
  rw [(Prod.mk.inj e3).2] at h2
  exact (h1 d (Prod.mk.inj e3).1).trans h2
theorem AllP.sl {α : Type} [Enc α] {l : List Nat} {sps : List Sp} {f : Fr} {vals : Nat → Value} {S' : PH} (h : AllP l (fun j => ∀ t, sps[j]? = some t → (∀ d, t.dst = some d → f d = vals j) ∧ t.fact (t.deps.map vals) S')) (i : Nat) {a d : Nat} {t : Sp} {x : List α}
    (e : l[i]? = some a) (e2 : sps[a]? = some t) (e3 : (t.dst, t.fact (t.deps.map vals) S') = (some d, RV S' (vals a) x)) : ∃ z m k, vals a = .slice z m k ∧ f d = .slice z m k ∧ RV S' (.slice z m k) x := by
  obtain ⟨h1, h2⟩ := h.at_ i e t e2
  rw [(Prod.mk.inj e3).2] at h2
  have h3 := h1 d (Prod.mk.inj e3).1
  obtain ⟨z, m, k, h4⟩ := ac_ h2
  rw [h4] at h2 h3
  exact ⟨z, m, k, h4, h3, h2⟩
theorem AllP.rf {l : List Nat} {sps : List Sp} {f : Fr} {vals : Nat → Value} {S' : PH} (h : AllP l (fun j => ∀ t, sps[j]? = some t → (∀ d, t.dst = some d → f d = vals j) ∧ t.fact (t.deps.map vals) S')) (i : Nat) {a d : Nat} {t : Sp}
    (e : l[i]? = some a) (e2 : sps[a]? = some t) (e3 : (t.dst, t.fact (t.deps.map vals) S') = (some d, ∃ z m k, vals a = .slice z m k)) : ∃ z m k, vals a = .slice z m k ∧ f d = .slice z m k := by
  obtain ⟨h1, h2⟩ := h.at_ i e t e2
  rw [(Prod.mk.inj e3).2] at h2
  have h3 := h1 d (Prod.mk.inj e3).1
  obtain ⟨z, m, k, h4⟩ := h2
  exact ⟨z, m, k, h4, h3.trans h4⟩
section
variable {P : Program} {n : Nat} {ro : Option Nat} {ops : Array Oper} {N : Fr → World → Prop} {rest : List Oper} {f : Fr} {w : World} {K : Fr → World → Prop} {ty : TypeId} {pos : String} {af : Array Edge}
theorem wo_ {dd : Option Nat} {op : Op} (h : OP P n ro ⟨dd, op, ty, pos, af, none⟩ f w (WL P n ro ops N rest)) : WL P n ro ops N (⟨dd, op, ty, pos, af, none⟩ :: rest) f w := wl_op rfl h
theorem wm_ {d : Nat} {x : Operand} {v : Value} (hd : Nat.blt d n = true) (hv : ev f x = v) (k : WL P n ro ops N rest (upd f d v) w) : WL P n ro ops N (⟨some d, .move x, ty, pos, af, none⟩ :: rest) f w := wl_op rfl (aq_ hd hv k)
theorem wa_ {d : Nat} {x : Operand} {v : Value} (hd : Nat.blt d n = true) (hv : ev f x = v) (k : WL P n ro ops N rest (upd f d v) w) : WL P n ro ops N (⟨some d, .assign x, ty, pos, af, none⟩ :: rest) f w := wl_op rfl (bn_ hd hv k)
theorem ws_ {o : Oper} {j d : Nat} {b c : Bool} (hg : (o.guard, (ops[j]?).bind (·.dst), Nat.blt d n, dstOk n o.dst) = (some (j, b), some d, true, true)) (hv : f d = .bool c) (hc : c = !b) (h : WL P n ro ops N rest (updO f o.dst undef) w) : WL P n ro ops N (o :: rest) f w := by
  simp only [Prod.mk.injEq] at hg
  exact wl_skip hg.1 hg.2.1 hg.2.2.1 hv hc hg.2.2.2 h
theorem wk_ {o : Oper} {j d : Nat} {b c : Bool} (hg : (o.guard, (ops[j]?).bind (·.dst), Nat.blt d n) = (some (j, b), some d, true)) (hv : f d = .bool c) (hc : c = b) (h : OP P n ro o f w (WL P n ro ops N rest)) : WL P n ro ops N (o :: rest) f w := by
  simp only [Prod.mk.injEq] at hg
  exact wl_taken hg.1 hg.2.1 hg.2.2 hv hc h
theorem pl_ {i : Nat} {o : Oper} (ho : (ops[i]?, o.guard) = (some o, none)) (h : OP P n ro o f w K) : OPg P n ro ops i f w K := by
  simp only [Prod.mk.injEq] at ho
  exact opg_plain ho.1 ho.2 h
theorem tk_ {i : Nat} {o : Oper} {j d : Nat} {b c : Bool} (ho : (ops[i]?, o.guard, (ops[j]?).bind (·.dst), Nat.blt d n) = (some o, some (j, b), some d, true)) (hv : f d = .bool c) (hc : c = b) (h : OP P n ro o f w K) : OPg P n ro ops i f w K := by
  simp only [Prod.mk.injEq] at ho
  exact opg_taken ho.1 ho.2.1 ho.2.2.1 ho.2.2.2 hv hc h
theorem sk_ {i : Nat} {o : Oper} {j d : Nat} {b c : Bool} (ho : (ops[i]?, o.guard, (ops[j]?).bind (·.dst), Nat.blt d n, dstOk n o.dst) = (some o, some (j, b), some d, true, true)) (hv : f d = .bool c) (hc : c = !b) (h : K (updO f o.dst undef) w) : OPg P n ro ops i f w K := by
  simp only [Prod.mk.injEq] at ho
  exact opg_skip ho.1 ho.2.1 ho.2.2.1 ho.2.2.2.1 hv hc ho.2.2.2.2 h
end
end Go.Proofs.YtlpdpeghgndmkaaGreat.Pad
end

section
namespace Go.Proofs.YtlpdpeghgndmkaaGreat.Pad
open Go
abbrev sn : Value := .slice none 0 0
theorem AllP.v {l : List Nat} {sps : List Sp} {f : Fr} {vals : Nat → Value} {S' : PH} (h : AllP l (fun j => ∀ t, sps[j]? = some t → (∀ d, t.dst = some d → f d = vals j) ∧ t.fact (t.deps.map vals) S')) (i : Nat) {a d : Nat} {t : Sp} {x : Value}
    (e : (l[i]?, sps[a]?, t.dst, t.fact (t.deps.map vals) S') = (some a, some t, some d, vals a = x)) : f d = x :=
  h.u i (Prod.mk.inj e).1 (Prod.mk.inj (Prod.mk.inj e).2).1 (Prod.mk.inj (Prod.mk.inj e).2).2
theorem fo {A : Value → Prop} {B C : Value → PH → Prop} {S : PH} {v : Value} (c : C v S) (a : A v := by exact rfl) (b : B v S := by exact rfl) : ∃ v S', A v ∧ S.Le S' ∧ B v S' ∧ C v S' := ⟨v, S, a, lr, b, c⟩
section
variable {P : Program} {n : Nat} {ro : Option Nat} {ops : Array Oper} {sps : List Sp} {tks : List Tok} {f0 : Fr} {S : PH} {i : Nat} {s : Sp}
theorem oc_ (h : ∀ {vals : Nat → Value} {f : Fr} {w : World} {S' : PH} {X : List HP}, S.Le S' →
    AllP s.anc (fun j => ∀ t, sps[j]? = some t → (∀ d, t.dst = some d → f d = vals j) ∧ t.fact (t.deps.map vals) S') →
    (∀ d, (∀ (j : Nat) (t : Sp), sps[j]? = some t → t.dst = some d → i ∈ t.anc ∨ i = j) → f d = f0 d) →
    Inv w S' (s.cons.map (jt_ tks vals) ++ (s.rd.map (jt_ tks vals) ++ X)) →
    OPg P n ro ops i f w fun f' w' => ∃ v S'', f' = updO f s.dst v ∧ S'.Le S'' ∧ s.fact (s.deps.map (upv vals i v)) S'' ∧
      Inv w' S'' (s.prod.map (jt_ tks (upv vals i v)) ++ (s.rd.map (jt_ tks vals) ++ X))) : Ob P n ro ops sps tks f0 S i s :=
  fun _ _ _ _ _ a b c d => h a b c d
theorem ob_ {o : Oper} (ho : (ops[i]?, o.guard) = (some o, none)) (h : ∀ {vals : Nat → Value} {f : Fr} {w : World} {S' : PH} {X : List HP}, S.Le S' →
    AllP s.anc (fun j => ∀ t, sps[j]? = some t → (∀ d, t.dst = some d → f d = vals j) ∧ t.fact (t.deps.map vals) S') →
    (∀ d, (∀ (j : Nat) (t : Sp), sps[j]? = some t → t.dst = some d → i ∈ t.anc ∨ i = j) → f d = f0 d) →
    Inv w S' (s.cons.map (jt_ tks vals) ++ (s.rd.map (jt_ tks vals) ++ X)) →
    OP P n ro o f w fun f' w' => ∃ v S'', f' = updO f s.dst v ∧ S'.Le S'' ∧ s.fact (s.deps.map (upv vals i v)) S'' ∧
      Inv w' S'' (s.prod.map (jt_ tks (upv vals i v)) ++ (s.rd.map (jt_ tks vals) ++ X))) : Ob P n ro ops sps tks f0 S i s :=
  fun _ _ _ _ _ a b c d => pl_ ho (h a b c d)
end
section
variable {P : Program} {n : Nat} {ro : Option Nat} {f : Fr} {w : World} {K : Fr → World → Prop} {d k : Nat} {ty : TypeId} {pos : String} {af : Array Edge} {gd : Option (Nat × Bool)} {x y : Operand} {v : Value} {T : TypeId} {S : PH}
theorem cv_ {vs : List Value} {args : Array Operand} {ct : Array TypeId} {g : Operand} {cap : Array Value} {O : List HP} {r : Value} (hk : ax_ P k) (hd : (Nat.blt d n, ev f g) = (true, .func (.func k) #[] cap))
    (hI : Inv w S O) (hc : ∀ Fr, Inv w S Fr → Calls P k vs.toArray w (bw_ S Fr r)) (hargs : (args.map (ev f)) ++ cap = vs.toArray)
    (kont : ∀ w', Inv w' S O → K (upd f d r) w') : OP P n ro ⟨some d, .call ⟨.value g, args, ct⟩, ty, pos, af, gd⟩ f w K :=
  uu_ (Prod.mk.inj hd).1 hk (Prod.mk.inj hd).2 hargs hI hc kont
theorem cl_ {vs : List Value} {args : Array Operand} {ct : Array TypeId} {g : Operand} {cap : Array Value} {Fr : List HP} {Ψ : PH → Value → List HP → Prop} (hk : ax_ P k) (hd : (Nat.blt d n, ev f g) = (true, .func (.func k) #[] cap))
    (hc : Calls P k vs.toArray w (lp_ S Fr Ψ)) (hargs : (args.map (ev f)) ++ cap = vs.toArray)
    (kont : ∀ v w' T O', S.Le T → Inv w' T (O' ++ Fr) → Ψ T v O' → K (upd f d v) w') : OP P n ro ⟨some d, .call ⟨.value g, args, ct⟩, ty, pos, af, gd⟩ f w K :=
  xl_ (Prod.mk.inj hd).1 hk (Prod.mk.inj hd).2 hargs hc kont
theorem li_ {e : Int} (hT : Shape P T false 1) (hp : PtT w S v e) (hd : (Nat.blt d n, ev f x) = (true, v)) (k : K (upd f d (.int .i64 e)) w) : OP P n ro ⟨some d, .load T x, ty, pos, af, gd⟩ f w K :=
  aj_ (Prod.mk.inj hd).1 hT (Prod.mk.inj hd).2 hp k
theorem lb_ {e : Bool} (hT : Shape P T false 1) (hp : PtT w S v e) (hd : (Nat.blt d n, ev f x) = (true, v)) (k : K (upd f d (.bool e)) w) : OP P n ro ⟨some d, .load T x, ty, pos, af, gd⟩ f w K :=
  sv_ (Prod.mk.inj hd).1 hT (Prod.mk.inj hd).2 hp k
theorem ld_ {α : Type} [Enc α] {e : α} (hT : Shape P T (Enc.agg α) (Enc.sz α)) (hp : PtT w S v e) (hd : (Nat.blt d n, ev f x) = (true, v)) (k : ∀ u, RV S u e → K (upd f d u) w) : OP P n ro ⟨some d, .load T x, ty, pos, af, gd⟩ f w K :=
  ay_ (Prod.mk.inj hd).1 hT (Prod.mk.inj hd).2 hp k
theorem fa_ {α : Type} [Enc α] {s : α} {k off : Nat} (hF : ds_ P T k off) (hp : PtT w S v s) (hd : (Nat.blt d n, ev f x) = (true, v)) (c : K (upd f d (an_ v off)) w) : OP P n ro ⟨some d, .fieldAddr T x k, ty, pos, af, gd⟩ f w K :=
  ae_ (Prod.mk.inj hd).1 hF (Prod.mk.inj hd).2 hp c
theorem ix_ {α : Type} [Enc α] {ls : List α} {E : TypeId} {i : Int} {e : α} (hT : P.underlying T = some (.slice E)) (hE : Shape P E (Enc.agg α) (Enc.sz α)) (hr : RV S v ls) (he : at? ls i = some e) (hx : ev f x = v) (hi : ev f y = .int .i64 i)
    (k : K (upd f d (af_ v i (Enc.sz α))) w) (hd : Nat.blt d n = true := by exact rfl) : OP P n ro ⟨some d, .indexAddr T x y, ty, pos, af, gd⟩ f w K :=
  ut_ hd hT hE hx hr hi he k
end
end Go.Proofs.YtlpdpeghgndmkaaGreat.Pad
end
