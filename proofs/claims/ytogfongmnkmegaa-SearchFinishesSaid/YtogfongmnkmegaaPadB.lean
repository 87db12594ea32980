/- Memory: what stands for good (PH), what the call owns (HP), and both together (Inv). -/
import Derived.Calls
import Derived.Laws.OwnMore
import Derived.Laws.Rows
import Derived.Laws.MakeOwn
set_option linter.unusedVariables false
namespace Go.Proofs.Ytogfongmnkmegaa.Pad
open Go
abbrev Hp := Nat → Option Obj
namespace Hp
def emp : Hp := fun _ => none
def one (g : Nat) (o : Obj) : Hp := fun b => if b = g then some o else none
def un (h k : Hp) : Hp := fun b => (h b).or (k b)
def Le (h k : Hp) : Prop := ∀ b o, h b = some o → k b = some o
def Disj (h k : Hp) : Prop := ∀ b, h b = none ∨ k b = none
def In (h : Hp) (w : World) : Prop := ∀ b o, h b = some o → w.heap[b]? = some o
theorem Le.refl (h : Hp) : h.Le h := fun _ _ e => e
theorem Le.trans {a b c : Hp} (h : a.Le b) (k : b.Le c) : a.Le c := fun x o e => k x o (h x o e)
theorem le_un_left (h k : Hp) : h.Le (un h k) := fun b o e => by simp [un, e]
theorem le_un_right {h k : Hp} (d : Disj h k) : k.Le (un h k) := fun b o e => by
  rcases d b with hn | hn
  · simp [un, hn, e]
  · rw [hn] at e; cases e
theorem un_le {h k m : Hp} (a : h.Le m) (b : k.Le m) : (un h k).Le m := fun x o e => by
  unfold un at e
  cases hh : h x with
  | none => rw [hh] at e; exact b x o (by simpa using e)
  | some y => rw [hh] at e; simp at e; subst e; exact a x y hh
theorem Disj.symm {h k : Hp} (d : Disj h k) : Disj k h := fun b => (d b).symm
theorem Disj.mono {h k h' k' : Hp} (d : Disj h k) (a : h'.Le h) (b : k'.Le k) : Disj h' k' := fun x => by
  rcases d x with e | e
  · left
    cases hx : h' x with
    | none => rfl
    | some o => rw [a x o hx] at e; cases e
  · right
    cases hx : k' x with
    | none => rfl
    | some o => rw [b x o hx] at e; cases e
theorem Disj.un {h k m : Hp} (a : Disj h m) (b : Disj k m) : Disj (Hp.un h k) m := fun x => by
  rcases a x with e | e
  · rcases b x with e' | e'
    · left; simp [Hp.un, e, e']
    · exact .inr e'
  · exact .inr e
theorem un_comm {h k : Hp} (d : Disj h k) : un h k = un k h := by
  funext b
  rcases d b with e | e <;> simp [un, e]
theorem un_assoc (a b c : Hp) : un (un a b) c = un a (un b c) := by
  funext x
  simp [un, Option.or_assoc]
theorem In.mono {h k : Hp} {w : World} (a : h.Le k) (i : k.In w) : h.In w := fun b o e => i b o (a b o e)
end Hp
structure PH where
  m : Hp
  os : Os
  out : Array (Nat × ByteArray)
structure PH.Le (S T : PH) : Prop where
  m : S.m.Le T.m
  os : T.os = S.os
  out : T.out = S.out
theorem PH.Le.refl (S : PH) : S.Le S := ⟨Hp.Le.refl _, rfl, rfl⟩
theorem PH.Le.trans {S T U : PH} (a : S.Le T) (b : T.Le U) : S.Le U := ⟨a.m.trans b.m, b.os.trans a.os, b.out.trans a.out⟩
structure HP where
  p : PH → Hp → Prop
  mono : ∀ {S T : PH} {h : Hp}, S.Le T → p S h → p T h
def HP.exact (h : Hp) : HP := ⟨fun _ k => k = h, fun _ e => e⟩
def Own (w : World) (S : PH) : Hp → List HP → Prop
  | U, [] => U.In w
  | U, A :: O => ∃ h, A.p S h ∧ Hp.Disj h U ∧ Own w S (Hp.un h U) O
structure Inv (w : World) (S : PH) (O : List HP) : Prop where
  os : w.os = S.os
  out : w.output = S.out
  own : Own w S S.m O
theorem Own.antitone {w : World} {S : PH} : ∀ {O : List HP} {U V : Hp}, V.Le U → Own w S U O → Own w S V O
  | [], _, _, hle, h => Hp.In.mono hle h
  | A :: O, U, V, hle, ⟨h, hA, hd, hr⟩ => ⟨h, hA, hd.mono (Hp.Le.refl _) hle, Own.antitone (Hp.un_le (Hp.le_un_left _ _) ((hle.trans (Hp.le_un_right hd)))) hr⟩
theorem Own.in_ {w : World} {S : PH} : ∀ {O : List HP} {U : Hp}, Own w S U O → U.In w
  | [], _, h => h
  | _ :: _, _, ⟨_, _, hd, hr⟩ => Hp.In.mono (Hp.le_un_right hd) (Own.in_ hr)
theorem Own.upS {w : World} {S T : PH} (hst : S.Le T) : ∀ {O : List HP} {U : Hp}, Own w S U O → Own w T U O
  | [], _, h => h
  | A :: O, U, ⟨h, hA, hd, hr⟩ => ⟨h, A.mono hst hA, hd, Own.upS hst hr⟩
theorem Own.swap {w : World} {S : PH} {A B : HP} {O : List HP} {U : Hp} : Own w S U (A :: B :: O) → Own w S U (B :: A :: O) := by
  rintro ⟨h, hA, hd, k, hB, hd', hr⟩
  have dk : Hp.Disj k h := hd'.mono (Hp.Le.refl _) (Hp.le_un_left _ _)
  have du : Hp.Disj k U := hd'.mono (Hp.Le.refl _) (Hp.le_un_right hd)
  refine ⟨k, hB, du, h, hA, ?_, ?_⟩
  · exact Hp.Disj.symm (Hp.Disj.un dk hd.symm)
  · rw [← Hp.un_assoc, Hp.un_comm dk.symm, Hp.un_assoc]
    exact hr
theorem Own.cons_congr {w : World} {S : PH} {A : HP} {O O' : List HP} (h : ∀ U, Own w S U O → Own w S U O') {U : Hp} : Own w S U (A :: O) → Own w S U (A :: O') := by
  rintro ⟨k, hA, hd, hr⟩
  exact ⟨k, hA, hd, h _ hr⟩
theorem Own.perm {w : World} {S : PH} {O O' : List HP} (hp : O.Perm O') : ∀ U, Own w S U O → Own w S U O' := by
  induction hp with
  | nil => exact fun _ h => h
  | cons A _ ih => exact fun U h => Own.cons_congr ih h
  | swap A B l => exact fun U h => Own.swap h
  | trans _ _ a b => exact fun U h => b U (a U h)
section
variable {w w' : World} {S T : PH} {O O' : List HP} {A B : HP}
theorem Inv.perm (h : Inv w S O) (hp : O.Perm O') : Inv w S O' := ⟨h.os, h.out, Own.perm hp _ h.own⟩
theorem Inv.swap (h : Inv w S (A :: B :: O)) : Inv w S (B :: A :: O) := ⟨h.os, h.out, Own.swap h.own⟩
theorem Inv.in_ (h : Inv w S O) : S.m.In w := Own.in_ h.own
theorem Inv.drop (h : Inv w S (A :: O)) : Inv w S O := by
  obtain ⟨k, _, hd, hr⟩ := h.own
  exact ⟨h.os, h.out, Own.antitone (Hp.le_un_right hd) hr⟩
def pull {α : Type} : Nat → List α → List α
  | 0, l => l
  | _ + 1, [] => []
  | i + 1, a :: l => match pull i l with
    | [] => [a]
    | b :: r => b :: a :: r
theorem ii_ {α : Type} : ∀ (i : Nat) (l : List α), l.Perm (pull i l)
  | 0, l => .refl _
  | _ + 1, [] => .refl _
  | i + 1, a :: l => by
    have ih := ii_ i l
    unfold pull
    cases hp : pull i l with
    | nil =>
      rw [hp] at ih
      simp only
      exact .cons a ih
    | cons b r =>
      rw [hp] at ih
      simp only
      exact (List.Perm.cons a ih).trans (List.Perm.swap b a r)
theorem Inv.pull (h : Inv w S O) (i : Nat) : Inv w S (pull i O) := h.perm (ii_ i O)
theorem Own.exactly {w : World} {S : PH} : ∀ {O : List HP} {U : Hp}, Own w S U O →
    ∃ hs : List Hp, Own w S U (hs.map HP.exact) ∧ (∀ w' S' V, Own w' S' V (hs.map HP.exact) → Own w' S V O)
  | [], U, h => ⟨[], h, fun _ _ _ h => h⟩
  | A :: O, U, ⟨h, hA, hd, hr⟩ => by
    obtain ⟨hs, h1, h2⟩ := Own.exactly hr
    refine ⟨h :: hs, ⟨h, rfl, hd, h1⟩, ?_⟩
    rintro w' S' V ⟨k, rfl, hd', hr'⟩
    exact ⟨_, hA, hd', h2 _ _ _ hr'⟩
theorem Inv.exactly (h : Inv w S O) : ∃ Fr : List HP, Inv w S Fr ∧ ∀ {w' T}, Inv w' T Fr → S.Le T → Inv w' S O := by
  obtain ⟨hs, h1, h2⟩ := Own.exactly h.own
  refine ⟨hs.map HP.exact, ⟨h.os, h.out, h1⟩, fun {w' T} h' hst => ⟨h'.os.trans hst.os, h'.out.trans hst.out, ?_⟩⟩
  exact Own.antitone hst.m (h2 _ _ _ h'.own)
theorem Inv.freeze (h : Inv w S (A :: O)) : ∃ T k, S.Le T ∧ Inv w T O ∧ A.p S k ∧ k.Le T.m := by
  obtain ⟨k, hA, hd, hr⟩ := h.own
  have hle : S.Le ⟨Hp.un k S.m, S.os, S.out⟩ := ⟨Hp.le_un_right hd, rfl, rfl⟩
  exact ⟨⟨Hp.un k S.m, S.os, S.out⟩, k, hle, ⟨h.os, h.out, Own.upS hle hr⟩, hA, Hp.le_un_left _ _⟩
def HP.Free (A : HP) : Prop := ∀ S T h, A.p S h → A.p T h
theorem Own.world (hh : ∀ (b : Nat) (o : Obj), w.heap[b]? = some o → w'.heap[b]? = some o) : ∀ {O : List HP} {U : Hp}, Own w S U O → Own w' S U O
  | [], _, h => fun b o e => hh b o (h b o e)
  | A :: O, U, ⟨k, hA, hd, hr⟩ => ⟨k, hA, hd, Own.world hh hr⟩
theorem Inv.world (h : Inv w S O) (hos : w'.os = w.os) (hout : w'.output = w.output) (hh : ∀ (b : Nat) (o : Obj), w.heap[b]? = some o → w'.heap[b]? = some o) : Inv w' S O :=
  ⟨hos.trans h.os, hout.trans h.out, Own.world hh h.own⟩
theorem Inv.drew (h : Inv w S O) : Inv w.drew S O := h.world rfl rfl fun _ _ e => e
theorem Own.lt : ∀ {O : List HP} {U : Hp}, Own w S U O → ∀ b o, U b = some o → b < w.heap.size := by
  intro O U h b o e
  have := Own.in_ h b o e
  exact (Array.getElem?_eq_some_iff.1 this).1
theorem Own.new {o : Obj} (hw : w' = w.alloc o) : ∀ {O : List HP} {U : Hp}, Own w S U O → Hp.Disj (Hp.one w.heap.size o) U ∧ Own w' S (Hp.un (Hp.one w.heap.size o) U) O
  | [], U, h => by
    have hd : Hp.Disj (Hp.one w.heap.size o) U := fun b => by
      by_cases e : b = w.heap.size
      · right
        cases hu : U b with
        | none => rfl
        | some x => have := Own.lt (O := []) h b x hu; omega
      · left; simp [Hp.one, e]
    refine ⟨hd, ?_⟩
    intro b x e
    subst hw
    unfold Hp.un Hp.one at e
    by_cases hb : b = w.heap.size
    · subst hb
      simp at e
      subst e
      exact heap_alloc_new w o
    · simp [hb] at e
      have := h b x e
      rw [heap_alloc_old w o b (Array.getElem?_eq_some_iff.1 this).1]
      exact this
  | A :: O, U, ⟨k, hA, hd, hr⟩ => by
    obtain ⟨hd', hr'⟩ := Own.new hw hr
    have d1 : Hp.Disj (Hp.one w.heap.size o) k := hd'.mono (Hp.Le.refl _) (Hp.le_un_left _ _)
    have d2 : Hp.Disj (Hp.one w.heap.size o) U := hd'.mono (Hp.Le.refl _) (Hp.le_un_right hd)
    refine ⟨d2, k, hA, Hp.Disj.symm (Hp.Disj.un d1 hd.symm), ?_⟩
    rw [← Hp.un_assoc, Hp.un_comm d1.symm, Hp.un_assoc]
    exact hr'
theorem Inv.new (h : Inv w S O) (o : Obj) : Inv (w.alloc o) S (HP.exact (Hp.one w.heap.size o) :: O) := by
  obtain ⟨hd, hr⟩ := Own.new (w' := w.alloc o) rfl h.own
  exact ⟨h.os, h.out, _, rfl, hd, hr⟩
theorem Own.turn {k k' : Hp} (hdom : ∀ b, k b = none ↔ k' b = none) (hw : ∀ b, k b = none → w'.heap[b]? = w.heap[b]?) (hin : k'.In w') :
    ∀ {O : List HP} {U : Hp}, Hp.Disj k U → Own w S (Hp.un k U) O → Own w' S (Hp.un k' U) O
  | [], U, hd, h => by
    intro b o e
    unfold Hp.un at e
    cases hk : k' b with
    | some x => rw [hk] at e; simp at e; subst e; exact hin b x hk
    | none =>
      rw [hk] at e
      simp at e
      rw [hw b ((hdom b).2 hk)]
      exact h b o (Hp.le_un_right hd b o e)
  | A :: O, U, hd, ⟨m, hA, hd', hr⟩ => by
    have d1 : Hp.Disj m k := hd'.mono (Hp.Le.refl _) (Hp.le_un_left _ _)
    have d2 : Hp.Disj m U := hd'.mono (Hp.Le.refl _) (Hp.le_un_right hd)
    have d1' : Hp.Disj m k' := fun b => by
      rcases d1 b with e | e
      · exact .inl e
      · exact .inr ((hdom b).1 e)
    have ddu : Hp.Disj k' U := fun b => by
      rcases hd b with e | e
      · exact .inl ((hdom b).1 e)
      · exact .inr e
    refine ⟨m, hA, Hp.Disj.symm (Hp.Disj.un d1'.symm d2.symm), ?_⟩
    have hr' : Own w S (Hp.un k (Hp.un m U)) O := by
      rw [← Hp.un_assoc, Hp.un_comm d1.symm, Hp.un_assoc]
      exact hr
    have := Own.turn hdom hw hin (U := Hp.un m U) (Hp.Disj.symm (Hp.Disj.un d1 hd.symm)) hr'
    rw [← Hp.un_assoc, Hp.un_comm d1', Hp.un_assoc]
    exact this
theorem Inv.turn {k k' : Hp} (h : Inv w S (HP.exact k :: O)) (hos : w'.os = w.os) (hout : w'.output = w.output)
    (hdom : ∀ b, k b = none ↔ k' b = none) (hw : ∀ b, k b = none → w'.heap[b]? = w.heap[b]?) (hin : k'.In w') : Inv w' S (HP.exact k' :: O) := by
  obtain ⟨m, rfl, hd, hr⟩ := h.own
  refine ⟨hos.trans h.os, hout.trans h.out, k', rfl, fun b => ?_, Own.turn hdom hw hin hd hr⟩
  rcases hd b with e | e
  · exact .inl ((hdom b).1 e)
  · exact .inr e
theorem Inv.open_ (h : Inv w S (A :: O)) : ∃ k, A.p S k ∧ Inv w S (HP.exact k :: O) := by
  obtain ⟨k, hA, hd, hr⟩ := h.own
  exact ⟨k, hA, h.os, h.out, k, rfl, hd, hr⟩
theorem Inv.shut {k : Hp} (h : Inv w S (HP.exact k :: O)) (hA : A.p S k) : Inv w S (A :: O) := by
  obtain ⟨m, rfl, hd, hr⟩ := h.own
  exact ⟨h.os, h.out, _, hA, hd, hr⟩
theorem Inv.front {k : Hp} (h : Inv w S (HP.exact k :: O)) : k.In w := by
  obtain ⟨m, rfl, hd, hr⟩ := h.own
  exact Hp.In.mono (Hp.le_un_left _ _) (Own.in_ hr)
end
def ax_ (g : Nat) (T : TypeId) (cs : Array Value) : HP := HP.exact (Hp.one g (.cells cs T (0, 0)))
section
variable {w : World} {S : PH} {O : List HP} {g : Nat} {T : TypeId} {cs cs' : Array Value}
theorem Inv.blk (h : Inv w S (ax_ g T cs :: O)) : w.heap[g]? = some (.cells cs T (0, 0)) := Inv.front h g _ (by simp [Hp.one])
theorem Inv.cell (h : Inv w S (ax_ g T cs :: O)) (i : Nat) : w.cell? ⟨g, i, none⟩ = cs[i]? := cell_of_row w g i cs T (0, 0) h.blk
theorem Inv.setRow (h : Inv w S (ax_ g T cs :: O)) : Inv (w.setRow g cs') S (ax_ g T cs' :: O) := by
  have hb := h.blk
  refine Inv.turn (w := w) h rfl rfl (fun b => ?_) (fun b hn => ?_) (fun b o e => ?_)
  · by_cases e : b = g <;> simp [Hp.one, e]
  · have hne : b ≠ g := by rintro rfl; simp [Hp.one] at hn
    exact setRow_other w g b cs' hne
  · unfold Hp.one at e
    by_cases hbg : b = g
    · subst hbg
      simp at e
      subst e
      exact setRow_heap w b cs cs' T (0, 0) hb
    · simp [hbg] at e
theorem Inv.alloc (h : Inv w S O) (T : TypeId) (cs : Array Value) : Inv (w.alloc (.cells cs T)) S (ax_ w.heap.size T cs :: O) := h.new _
end
end Go.Proofs.Ytogfongmnkmegaa.Pad
