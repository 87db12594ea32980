/- Rows: slices that the call owns. -/
import Derived.Test.YtogfongmnkmegaaPadD
set_option linter.unusedVariables false
set_option linter.unusedSimpArgs false
namespace Go.Proofs.Ytogfongmnkmegaa.Pad
open Go
variable {ro : Option Nat}
section repl
variable {α : Type} [Enc α]
def RepL (S : PH) : List Value → List α → Prop
  | cs, [] => cs = []
  | cs, x :: l => ∃ es rest, cs = es ++ rest ∧ Enc.rep S es x ∧ RepL S rest l
variable {S T : PH}
theorem RepL.len : ∀ {l : List α} {cs : List Value}, RepL S cs l → cs.length = l.length * Enc.sz α
  | [], cs, h => by have h : cs = [] := h; simp [h]
  | x :: l, cs, ⟨es, rest, e, h1, h2⟩ => by
    have := RepL.len h2
    rw [e, List.length_append, Enc.len h1, this, List.length_cons, Nat.add_mul]
    omega
theorem RepL.mono (hle : S.Le T) : ∀ {l : List α} {cs : List Value}, RepL S cs l → RepL T cs l
  | [], _, h => h
  | _ :: _, _, ⟨es, rest, e, h1, h2⟩ => ⟨es, rest, e, Enc.mono hle h1, RepL.mono hle h2⟩
theorem RepL.append : ∀ {l m : List α} {cs ds : List Value}, RepL S cs l → RepL S ds m → RepL S (cs ++ ds) (l ++ m)
  | [], m, cs, ds, h, k => by have h : cs = [] := h; subst h; exact k
  | x :: l, m, cs, ds, ⟨es, rest, e, h1, h2⟩, k => ⟨es, rest ++ ds, by rw [e, List.append_assoc], h1, RepL.append h2 k⟩
theorem RepL.one {cs : List Value} {x : α} (h : Enc.rep S cs x) : RepL S cs [x] := ⟨cs, [], by simp, h, rfl⟩
theorem RepL.cell1 : ∀ {l : List α} {cs : List Value}, RepL S cs l → ∀ v ∈ cs, v.oneCell' = true
  | [], cs, h, v, hv => by have h : cs = [] := h; subst h; simp at hv
  | x :: l, cs, ⟨es, rest, e, h1, h2⟩, v, hv => by
    rw [e] at hv
    rcases List.mem_append.1 hv with h | h
    · exact Enc.cell1 h1 v h
    · exact RepL.cell1 h2 v h
theorem RepL.cut : ∀ {l : List α} {cs : List Value} {i : Nat} {x : α}, RepL S cs l → l[i]? = some x →
    ∃ A es B, cs = A ++ (es ++ B) ∧ A.length = i * Enc.sz α ∧ Enc.rep S es x ∧ ∀ es' x', Enc.rep S es' x' → RepL S (A ++ (es' ++ B)) (l.set i x')
  | [], _, _, _, _, h => by simp at h
  | y :: l, cs, 0, x, ⟨es, rest, e, h1, h2⟩, h => by
    simp at h
    subst h
    exact ⟨[], es, rest, e, by simp, h1, fun es' x' h' => ⟨es', rest, rfl, h', h2⟩⟩
  | y :: l, cs, i + 1, x, ⟨es, rest, e, h1, h2⟩, h => by
    simp at h
    obtain ⟨A, es0, B, e0, hA, hr, hset⟩ := RepL.cut h2 h
    refine ⟨es ++ A, es0, B, by rw [e, e0, List.append_assoc], by rw [List.length_append, Enc.len h1, hA, Nat.add_mul]; omega, hr, fun es' x' h' => ?_⟩
    exact ⟨es, A ++ (es' ++ B), by rw [List.append_assoc], h1, hset es' x' h'⟩
theorem RepL.split : ∀ {l : List α} {cs : List Value} (k : Nat), k ≤ l.length → RepL S cs l → ∃ a b, cs = a ++ b ∧ RepL S a (l.take k) ∧ RepL S b (l.drop k)
  | l, cs, 0, _, h => ⟨[], cs, rfl, rfl, h⟩
  | [], cs, k + 1, hk, h => by simp at hk
  | x :: l, cs, k + 1, hk, ⟨es, rest, e, h1, h2⟩ => by
    obtain ⟨a, b, e', ha, hb⟩ := RepL.split k (by simpa using hk) h2
    exact ⟨es ++ a, b, by rw [e, e', List.append_assoc], ⟨es, a, rfl, h1, ha⟩, hb⟩
theorem RepL.rowAt {cell : Addr → Option Value} {ad : Addr} {l : List α} {cs : List Value} (h : RepL S cs l) (hc : ∀ j u, cs[j]? = some u → cell (ad.add j) = some u) : RowAt cell S ad l := by
  intro i x hx
  obtain ⟨A, es, B, e, hA, hr, _⟩ := h.cut hx
  refine ⟨es, hr, fun j u hu => hc _ _ ?_⟩
  rw [e, ← hA, List.getElem?_append_right (by omega), Nat.add_sub_cancel_left, List.getElem?_append_left (List.getElem?_eq_some_iff.1 hu).1]
  exact hu
theorem RowAt.repL {cell : Addr → Option Value} : ∀ {l : List α} {ad : Addr}, RowAt cell S ad l → ∃ cs, RepL S cs l ∧ ∀ j u, cs[j]? = some u → cell (ad.add j) = some u
  | [], _, _ => ⟨[], rfl, by simp⟩
  | x :: l, ad, h => by
    obtain ⟨es, h1, h2⟩ := h 0 x rfl
    have hr : RowAt cell S (ad.add (Enc.sz α)) l := by
      intro i y hy
      obtain ⟨es', h1', h2'⟩ := h (i + 1) y (by simpa using hy)
      refine ⟨es', h1', fun j u hu => ?_⟩
      rw [dg_]
      have := h2' j u hu
      rw [Nat.add_mul] at this
      rw [← this]
      congr 2
      omega
    obtain ⟨cs, h3, h4⟩ := RowAt.repL hr
    refine ⟨es ++ cs, ⟨es, cs, rfl, h1, h3⟩, fun j u hu => ?_⟩
    have hl := Enc.len h1
    by_cases hj : j < es.length
    · rw [List.getElem?_append_left hj] at hu
      have := h2 j u hu
      simpa using this
    · rw [List.getElem?_append_right (by omega)] at hu
      have := h4 _ u hu
      rw [dg_, hl] at this
      rw [← this]
      congr 2
      omega
end repl
def RowP {α : Type} [Enc α] (T : TypeId) (v : Value) (l : List α) (S : PH) (h : Hp) : Prop :=
  (v = .slice none 0 0 ∧ l = [] ∧ h = Hp.emp) ∨
  ∃ (g cap : Nat) (pre ls post : List Value), v = .slice (some ⟨g, pre.length, none⟩) l.length cap ∧ h = Hp.one g (.cells (pre ++ (ls ++ post)).toArray T (0, 0)) ∧
    RepL S ls l ∧ l.length ≤ cap ∧ cap ≤ maxLen ∧ cap * Enc.sz α ≤ l.length * Enc.sz α + post.length
def Row {α : Type} [Enc α] (T : TypeId) (v : Value) (l : List α) : HP where
  p := RowP T v l
  mono hle h := by
    rcases h with h | ⟨g, cap, pre, ls, post, h1, h2, h3, h4⟩
    · exact .inl h
    · exact .inr ⟨g, cap, pre, ls, post, h1, h2, h3.mono hle, h4⟩
def Src {α : Type} [Enc α] (w : World) (S : PH) (u : Value) (ys : List α) : Prop :=
  ∃ a cap, u = .slice a ys.length cap ∧ (a = none → ys = []) ∧ ∀ ad, a = some ad → RowAt w.cell? S ad ys
section
variable {α : Type} [Enc α] {w : World} {S : PH} {O : List HP} {T : TypeId} {v : Value} {l : List α}
theorem RV.src {u : Value} {ys : List α} (h : RV S u ys) (hin : S.m.In w) : Src w S u ys := by
  obtain ⟨a, cap, rfl, hl, hm, hn, hr⟩ := ep_ h
  exact ⟨a, cap, rfl, fun e => (hn e).1, fun ad e i x hx => by
    obtain ⟨es, h1, h2⟩ := hr ad e i x hx
    exact ⟨es, h1, fun j u hu => PH.cell_in hin (h2 j u hu)⟩⟩
theorem ke_ {g : Nat} {pre ls post : List Value} (hb : w.heap[g]? = some (.cells (pre ++ (ls ++ post)).toArray T (0, 0))) :
    ∀ j u, ls[j]? = some u → w.cell? ((⟨g, pre.length, none⟩ : Addr).add j) = some u := by
  intro j u hu
  rw [di_, cell_of_row w g _ _ T (0, 0) hb]
  simp only [List.getElem?_toArray]
  rw [List.getElem?_append_right (by omega), Nat.add_sub_cancel_left, List.getElem?_append_left (List.getElem?_eq_some_iff.1 hu).1]
  exact hu
theorem Inv.rowSrc (h : Inv w S (Row T v l :: O)) : Src w S v l := by
  obtain ⟨k, hk, hI⟩ := h.open_
  rcases hk with ⟨rfl, rfl, rfl⟩ | ⟨g, cap, pre, ls, post, rfl, rfl, h3, h4, h5, h6⟩
  · exact ⟨none, 0, rfl, fun _ => rfl, fun _ e => by cases e⟩
  · refine ⟨some ⟨g, pre.length, none⟩, cap, rfl, (fun e => by cases e), fun ad e => ?_⟩
    cases e
    have hb := hI.front g _ (by simp [Hp.one]; rfl)
    exact h3.rowAt (ke_ hb)
theorem Inv.rowForm (h : Inv w S (Row T v l :: O)) : ∃ a cap, v = .slice a l.length cap ∧ l.length ≤ cap ∧ cap ≤ maxLen := by
  obtain ⟨k, hk, hI⟩ := h.open_
  rcases hk with ⟨rfl, rfl, rfl⟩ | ⟨g, cap, pre, ls, post, rfl, rfl, h3, h4, h5, h6⟩
  · exact ⟨none, 0, rfl, Nat.le_refl _, by simp [maxLen]⟩
  · exact ⟨_, cap, rfl, h4, h5⟩
theorem Src.elem {u : Value} {ys : List α} (h : Src w S u ys) {i : Int} {x : α} (hx : at? ys i = some x) : PtT w S (ah_ u i (Enc.sz α)) x := by
  obtain ⟨a, cap, rfl, hn, hr⟩ := h
  obtain ⟨h0, hlt, hx⟩ := bv_ hx
  cases a with
  | none => rw [hn rfl] at hlt; simp at hlt
  | some ad =>
    obtain ⟨es, h1, h2⟩ := hr ad rfl _ _ hx
    exact ⟨_, es, rfl, h1, fun j u hu => by rw [dg_]; exact h2 j u hu⟩
theorem Inv.rowElem (h : Inv w S (Row T v l :: O)) {i : Int} {x : α} (hx : at? l i = some x) : PtT w S (ah_ v i (Enc.sz α)) x := h.rowSrc.elem hx
theorem Inv.rowNil (h : Inv w S O) : Inv w S (Row T (.slice none 0 0) ([] : List α) :: O) :=
  ⟨h.os, h.out, Hp.emp, .inl ⟨rfl, rfl, rfl⟩, fun _ => .inl rfl, by
    have : Hp.un Hp.emp S.m = S.m := by funext b; simp [Hp.un, Hp.emp]
    rw [this]
    exact h.own⟩
theorem RowP.rv {U : PH} {k : Hp} (h : RowP T v l S k) (hle : S.Le U) (hk : k.Le U.m) : RV U v l := by
  rcases h with ⟨rfl, rfl, rfl⟩ | ⟨g, cap, pre, ls, post, rfl, rfl, h3, h4, h5, h6⟩
  · exact rv_nil
  · refine gn_ ⟨h4, h5, (fun e => by cases e), fun ad e => ?_⟩
    cases e
    have hb := hk g _ (by simp [Hp.one]; rfl)
    refine (h3.mono hle).rowAt fun j u hu => ?_
    rw [di_]
    simp only [PH.cell, hb]
    simp only [List.getElem?_toArray, Option.isSome_none, Bool.false_eq_true, if_false]
    rw [List.getElem?_append_right (by omega), Nat.add_sub_cancel_left, List.getElem?_append_left (List.getElem?_eq_some_iff.1 hu).1]
    exact hu
theorem Inv.rowFreeze (h : Inv w S (Row T v l :: O)) : ∃ U, S.Le U ∧ Inv w U O ∧ RV U v l := by
  obtain ⟨U, k, h1, h2, h3, h4⟩ := h.freeze
  exact ⟨U, h1, h2, RowP.rv h3 h1 h4⟩
theorem Inv.cellsFreeze {β : Type} [Enc β] {g : Nat} {cs : Array Value} {x : β} (h : Inv w S (ax_ g T cs :: O)) (hx : Enc.rep S cs.toList x) :
    ∃ U, S.Le U ∧ Inv w U O ∧ Enc.rep U cs.toList x ∧ ∀ j u, cs.toList[j]? = some u → U.cell ((⟨g, 0, none⟩ : Addr).add j) = some u := by
  obtain ⟨U, k, h1, h2, h3, h4⟩ := h.freeze
  refine ⟨U, h1, h2, Enc.mono h1 hx, fun j u hu => ?_⟩
  have h3 : k = Hp.one g (.cells cs T (0, 0)) := h3
  have hb := h4 g (.cells cs T (0, 0)) (by rw [h3]; simp [Hp.one])
  rw [di_]
  simp only [PH.cell, hb]
  simpa using hu
def PtS {β : Type} [Enc β] (S : PH) (p : Value) (x : β) : Prop := ∃ a cs, p = .pointer (some a) ∧ Enc.rep S cs x ∧ ∀ j u, cs[j]? = some u → S.cell (a.add j) = some u
theorem PtS.mono {β : Type} [Enc β] {U : PH} {p : Value} {x : β} (h : PtS S p x) (hle : S.Le U) : PtS U p x := by
  obtain ⟨a, cs, e, h1, h2⟩ := h
  exact ⟨a, cs, e, Enc.mono hle h1, fun j u hu => PH.cell_le hle (h2 j u hu)⟩
theorem PtS.at_ {β : Type} [Enc β] {p : Value} {x : β} (h : PtS S p x) (hI : Inv w S O) : PtT w S p x := by
  obtain ⟨a, cs, e, h1, h2⟩ := h
  exact ⟨a, cs, e, h1, fun j u hu => PH.cell_in hI.in_ (h2 j u hu)⟩
theorem Inv.boxFreeze {β : Type} [Enc β] {g : Nat} {u : Value} {x : β} (h : Inv w S (ax_ g T u.cells :: O)) (hx : RV S u x) :
    ∃ U, S.Le U ∧ Inv w U O ∧ PtS U (.pointer (some ⟨g, 0, none⟩)) x := by
  obtain ⟨U, h1, h2, h3, h4⟩ := h.cellsFreeze hx.cells
  exact ⟨U, h1, h2, _, _, rfl, h3, h4⟩
end
section ops
variable {P : Program} {n : Nat} {f : Fr} {w : World} {K : Fr → World → Prop} {d : Nat} {ty : TypeId} {pos : String} {af : Array Edge} {gd : Option (Nat × Bool)} {x y z : Operand} {v u : Value} {T E : TypeId}
  {α : Type} [Enc α] {S : PH} {O : List HP} {l : List α} {e : α}
theorem bu_ (hd : Nat.blt d n = true) (hT : P.underlying T = some (.slice E)) (hx : ev f x = v) (hI : Inv w S (Row E v l :: O)) (k : K (upd f d (.int .i64 l.length)) w) :
    OP P n ro ⟨some d, .call ⟨.builtin .len, #[x], #[T]⟩, ty, pos, af, gd⟩ f w K := by
  obtain ⟨a, cap, rfl, _⟩ := hI.rowForm
  exact nl_ hd hT hx k
theorem bh_ {i : Int} (hd : Nat.blt d n = true) (hT : P.underlying T = some (.slice E)) (hE : Shape P E (Enc.agg α) (Enc.sz α))
    (hx : ev f x = v) (hr : Src w S v l) (hi : ev f y = .int .i64 i) (he : at? l i = some e) (k : K (upd f d (ah_ v i (Enc.sz α))) w) :
    OP P n ro ⟨some d, .indexAddr T x y, ty, pos, af, gd⟩ f w K := by
  obtain ⟨a, cap, rfl, hn, _⟩ := hr
  obtain ⟨h0, hlt, _⟩ := bv_ he
  cases a with
  | none => rw [hn rfl] at hlt; simp at hlt
  | some ad => exact gg_ hd hT hE hx hi h0 hlt k
theorem ki_ {g : Nat} {T : TypeId} {cs cs' : Array Value} (h : Inv w S (HP.exact (Hp.one g (.cells cs T (0, 0))) :: O)) : Inv (w.setRow g cs') S (HP.exact (Hp.one g (.cells cs' T (0, 0))) :: O) :=
  Inv.setRow (T := T) (cs := cs) (cs' := cs') h
theorem jw_ {α : Type} (A B C X : List α) (h : B.length = X.length) : (A ++ (B ++ C)).take A.length ++ X ++ (A ++ (B ++ C)).drop (A.length + X.length) = A ++ (X ++ C) := by
  rw [List.take_left, List.append_assoc]
  congr 2
  rw [← List.append_assoc, List.drop_append_of_le_length (by simp; omega)]
  rw [← h, ← List.length_append, List.drop_length]
  rfl
theorem db_ {g : Nat} {A B C X : List Value} (hI : Inv w S (HP.exact (Hp.one g (.cells (A ++ (B ++ C)).toArray E (0, 0))) :: O)) (hl : B.length = X.length) (h1 : ∀ u ∈ X, u.oneCell' = true) :
    ∃ w', (storeCells ⟨g, A.length, none⟩ X).run P w = .ok () w' ∧ Inv w' S (HP.exact (Hp.one g (.cells (A ++ (X ++ C)).toArray E (0, 0))) :: O) := by
  have hb := hI.front g _ (by simp [Hp.one]; rfl)
  have hst := run_storeCells_at P g A.length E X 0 _ w hb (by simp; omega) h1
  simp only [Nat.add_zero, jw_ A B C X hl] at hst
  exact ⟨_, hst, ki_ hI⟩
theorem hg_ {i : Int} {sz off : Nat} {agg : Bool} {e e' : α} {A B C : List Value} (hT : Shape P T agg sz) (hI : Inv w S (Row E v l :: O)) (hx : ev f x = am_ (ah_ v i (Enc.sz α)) off) (hy : ev f y = u)
    (he : at? l i = some e)
    (hpart : ∀ cs, Enc.rep S cs e → ∃ A B C, cs = A ++ (B ++ C) ∧ A.length = off ∧ B.length = u.cells.toList.length ∧ Enc.rep S (A ++ (u.cells.toList ++ C)) e')
    (hs : u.cells.size = sz) (k : ∀ w', Inv w' S (Row E v (l.set i.toNat e') :: O) → K f w') :
    OP P n ro ⟨none, .store T x y, ty, pos, af, gd⟩ f w K := by
  obtain ⟨h, hk, hI'⟩ := hI.open_
  obtain ⟨h0, hlt, hx'⟩ := bv_ he
  rcases hk with ⟨rfl, rfl, rfl⟩ | ⟨g, cap, pre, ls, post, rfl, rfl, h3, h4, h5, h6⟩
  · simp at hlt
  · obtain ⟨A0, es, B0, e0, hA0, hr, hset⟩ := h3.cut hx'
    obtain ⟨A1, B1, C1, e1, hA1, hB1, hr'⟩ := hpart es hr
    have hc : ∀ q ∈ u.cells.toList, q.oneCell' = true := fun q hq => Enc.cell1 hr' q (by simp at hq ⊢; exact .inr (.inl hq))
    have eq1 : pre ++ (ls ++ post) = (pre ++ (A0 ++ A1)) ++ (B1 ++ (C1 ++ (B0 ++ post))) := by
      rw [e0, e1]; simp [List.append_assoc]
    rw [eq1] at hI'
    obtain ⟨w', hst, hI''⟩ := db_ (P := P) hI' hB1 hc
    have hp : ev f x = .pointer (some ⟨g, (pre ++ (A0 ++ A1)).length, none⟩) := by
      rw [hx]
      simp only [ah_, am_, di_]
      congr 3
      simp [hA0, hA1]
      omega
    refine ho_ (w' := w') ?_ ?_
    · simp [execOp, hp, hy, Instr.storeAt, Instr.sureAddr, storeVar, hT.size w, hs]
      have := hst
      simp at this
      rw [this]
      rfl
    · refine k w' (hI''.shut ?_)
      refine .inr ⟨g, cap, pre, A0 ++ ((A1 ++ (u.cells.toList ++ C1)) ++ B0), post, by simp, ?_, hset _ _ hr', by simpa using h4, h5, by simpa using h6⟩
      simp [List.append_assoc]
theorem dp_ {i : Int} {e e' : α} (hT : Shape P T (Enc.agg α) (Enc.sz α)) (hI : Inv w S (Row E v l :: O)) (hx : ev f x = ah_ v i (Enc.sz α)) (hy : ev f y = u)
    (he : at? l i = some e) (hu : RV S u e') (k : ∀ w', Inv w' S (Row E v (l.set i.toNat e') :: O) → K f w') :
    OP P n ro ⟨none, .store T x y, ty, pos, af, gd⟩ f w K := by
  have hc := hu.cells
  have hl := Enc.len hc
  refine hg_ (A := []) (B := []) (C := []) (off := 0) hT hI ?_ hy he (fun cs hcs => ⟨[], cs, [], by simp, rfl, by rw [Enc.len hcs, hl], by simpa using hc⟩) (by rw [← Array.length_toList]; exact hl) k
  rw [hx]
  obtain ⟨h0, hlt, _⟩ := bv_ he
  cases v with
  | slice a q c => cases a <;> simp [ah_, am_, Addr.add]
  | pointer a => cases a <;> simp [ah_, am_, Addr.add]
  | _ => rfl
theorem RepL.replicate {S : PH} {zc : List Value} {z : α} (h : Enc.rep S zc z) : ∀ k, RepL S (List.replicate k zc).flatten (List.replicate k z)
  | 0 => rfl
  | k + 1 => by
    rw [List.replicate_succ, List.replicate_succ, List.flatten_cons]
    exact ⟨zc, _, rfl, h, RepL.replicate h k⟩
theorem gh_ (z : Array Value) (k : Nat) : (madeCells z (k * z.size)).toList = (List.replicate k z.toList).flatten := by
  induction k with
  | zero => simp [madeCells]
  | succ k ih =>
    have e : (madeCells z ((k + 1) * z.size)).toList = (madeCells z (k * z.size)).toList ++ z.toList := by
      apply List.ext_getElem?
      intro j
      have hz : (k + 1) * z.size = k * z.size + z.size := by rw [Nat.add_mul]; omega
      by_cases hj : j < k * z.size
      · rw [List.getElem?_append_left (by simpa [madeCells] using hj)]
        simp [madeCells, hz, hj, Nat.lt_of_lt_of_le hj (Nat.le_add_right _ _)]
      · by_cases hj2 : j < k * z.size + z.size
        · rw [List.getElem?_append_right (by simp [madeCells]; omega)]
          have h3 : j - k * z.size < z.size := by omega
          have h4 : j % z.size = j - k * z.size := by
            have : j = (j - k * z.size) + z.size * k := by rw [Nat.mul_comm z.size k]; omega
            rw [this, Nat.add_mul_mod_self_left, Nat.mod_eq_of_lt h3]
            rw [Nat.mul_comm z.size k]; omega
          simp [madeCells, hz, hj2, h4, h3]
        · rw [List.getElem?_eq_none (by simp [madeCells, hz]; omega), List.getElem?_eq_none (by simp [madeCells]; omega)]
    rw [e, ih, List.replicate_succ', List.flatten_append]
    simp
structure ElemI (P : Program) (α : Type) [Enc α] (E : TypeId) (bytes : Nat) (z : Value) (zero : α) (i : TypeInfo) : Prop where
  hi : P.info? E = some i
  hz : i.zero = some z
  hs : i.size = Enc.sz α
  hb : i.bytes = bytes
  hzs : z.cells.size = Enc.sz α
  rep : ∀ S, Enc.rep S z.cells.toList zero
def kx_ (P : Program) (α : Type) [Enc α] (E : TypeId) (bytes : Nat) (z : Value) (zero : α) : Prop := ∃ i, ElemI P α E bytes z zero i
def mk? {α : Type} (k : Int) (z : α) : Option (List α) := if 0 ≤ k ∧ k ≤ 2147483648 then some (List.replicate k.toNat z) else none
def push? {α : Type} (l m : List α) : Option (List α) := if l.length + m.length ≤ 2147483648 then some (l ++ m) else none
theorem ju_ {α : Type} {k : Int} {z : α} {l : List α} (h : mk? k z = some l) : 0 ≤ k ∧ k ≤ 2147483648 ∧ l = List.replicate k.toNat z := by
  unfold mk? at h
  split at h
  · exact ⟨‹0 ≤ k ∧ _›.1, ‹0 ≤ k ∧ _›.2, (Option.some.inj h).symm⟩
  · cases h
theorem kl_ {α : Type} {l m r : List α} (h : push? l m = some r) : l.length + m.length ≤ 2147483648 ∧ r = l ++ m := by
  unfold push? at h
  split at h
  · exact ⟨‹_›, (Option.some.inj h).symm⟩
  · cases h
theorem dv_ {bytes : Nat} {zv : Value} {zd : α} {c : Int} {r : List α} (hd : Nat.blt d n = true) (hT : P.underlying T = some (.slice E)) (hE0 : kx_ P α E bytes zv zd) (hby : bytes ≤ 65536)
    (hx : ev f x = .int .i64 c) (hy : ev f y = .int .i64 c) (hI : Inv w S O) (hr : mk? c zd = some r) (k : ∀ u w', Inv w' S (Row E u r :: O) → K (upd f d u) w') :
    OP P n ro ⟨some d, .makeSlice T x y, ty, pos, af, gd⟩ f w K := by
  obtain ⟨h0, hl, rfl⟩ := ju_ hr
  obtain ⟨ei, hE⟩ := hE0
  have hbb : (ei.bytes : Int) * c ≤ 281474976710656 := by
    have h1 : (ei.bytes : Int) ≤ 65536 := by rw [hE.hb]; omega
    have h2 : (ei.bytes : Int) * c ≤ 65536 * 2147483648 := Int.mul_le_mul h1 hl h0 (by omega)
    omega
  have hm := run_make (P := P) w T E ei zv hT hE.hi hE.hz .i64 .i64 c c h0 (Int.le_refl _) hbb (by omega)
  refine cd_ hd (v := .slice (some ⟨w.heap.size, 0, none⟩) c.toNat c.toNat) (w' := w.alloc (.cells (madeCells zv.cells (c.toNat * ei.size)) E)) (by simp [execOp, hx, hy, hm]) (k _ _ ?_)
  refine (hI.new _).shut (A := Row E _ _) ?_
  refine .inr ⟨w.heap.size, c.toNat, [], (List.replicate c.toNat zv.cells.toList).flatten, [], by simp, ?_, RepL.replicate (hE.rep S) _, by simp, by simp only [maxLen]; omega, by simp⟩
  rw [hE.hs, ← hE.hzs]
  congr 1
  rw [← gh_]
  simp
theorem ir_ (off : Nat) : ∀ (l : List Value) (k : Nat) (cs : Array Value), (l.zipIdx k).foldl (fun cs (c, j) => cs.setIfInBounds (off + j) c) cs = dh_ cs (off + k) l
  | [], _, _ => rfl
  | c :: l, k, cs => by
    rw [List.zipIdx_cons, List.foldl_cons, ir_ off l (k + 1)]
    rfl
def jm_ (place : Nat → Option (Nat × Nat)) (cells : Array Value) : List (Nat × Array Value) → Option (Array Value)
  | [] => some cells
  | (i, cs) :: rest =>
    match place i with
    | none => none
    | some (off, size) => if cs.size ≠ size || off + cs.size > cells.size then none else jm_ place (dh_ cells off cs.toList) rest
theorem jl_ (place : Nat → Option (Nat × Nat)) : ∀ (ps : List (Nat × Value)) (cells : Array Value), Instr.fill place cells ps = jm_ place cells (ps.map fun p => (p.1, p.2.cells))
  | [], _ => rfl
  | (i, v) :: ps, cells => by
    unfold Instr.fill
    simp only [List.map_cons]
    unfold jm_
    cases place i with
    | none => rfl
    | some q =>
      obtain ⟨off, size⟩ := q
      simp only
      split
      · rfl
      · rw [jl_ place ps]
        congr 1
        have := ir_ off v.cells.toList 0 cells
        rw [Nat.add_zero] at this
        rw [← this, ← Array.foldl_toList, Array.toList_zipIdx]
def Parts (f : Fr) : List (Nat × Operand) → List (Nat × Array Value) → Prop
  | [], [] => True
  | (i, x) :: ps, (j, cs) :: qs => i = j ∧ (ev f x).cells = cs ∧ Parts f ps qs
  | _, _ => False
theorem Parts.eq {f : Fr} : ∀ {ps : List (Nat × Operand)} {qs : List (Nat × Array Value)}, Parts f ps qs → (ps.map fun p => (p.1, (ev f p.2).cells)) = qs
  | [], [], _ => rfl
  | (i, x) :: ps, (j, cs) :: qs, ⟨h1, h2, h3⟩ => by
    rw [List.map_cons, Parts.eq h3, h1, h2]
  | [], _ :: _, h => h.elim
  | _ :: _, [], h => h.elim
structure StructF (P : Program) (T : TypeId) (zero : Array Value) (places : Array (Nat × Nat)) (fs : Array Field) : Prop where
  z : ∀ w, (do pure (← zeroValue T).cells : Sem (Array Value)).run P w = .ok zero w
  u : P.underlying T = some (.struct fs)
  p : ∀ w, (fs.mapM fun f => do pure (f.offset, ← sizeOf f.type) : Sem (Array (Nat × Nat))).run P w = .ok places w
def StructT (P : Program) (T : TypeId) (zero : Array Value) (places : Array (Nat × Nat)) : Prop := ∃ fs, StructF P T zero places fs
theorem StructT.run {P : Program} {T : TypeId} {zero : Array Value} {places : Array (Nat × Nat)} (h : StructT P T zero places) (w : World) (parts : Array (Nat × Value)) {c : Array Value}
    (hc : Instr.fill (places[·]?) zero parts.toList = some c) : (Instr.build T parts).run P w = .ok (.agg c) w := by
  obtain ⟨fs, h⟩ := h
  unfold Instr.build
  have hz := h.z w
  simp only [Sem.run_bind, Sem.run_pure] at hz
  simp only [Sem.run_bind]
  cases hq : (zeroValue T).run P w with
  | halt x w' => rw [hq] at hz; cases hz
  | ok v w' =>
    rw [hq] at hz
    simp only [Result.andThen_ok] at hz ⊢
    obtain ⟨rfl, rfl⟩ : v.cells = zero ∧ w' = w := by injection hz with a b; exact ⟨a, b⟩
    rw [run_underlying h.u]
    simp only [Result.andThen_ok, Sem.run_bind, h.p, hc, Sem.run_pure]
theorem cw_ {ps : List (Nat × Operand)} {qs : List (Nat × Array Value)} {zero c : Array Value} {places : Array (Nat × Nat)} (hd : Nat.blt d n = true) (hT : StructT P T zero places) (hp : Parts f ps qs)
    (hc : jm_ (places[·]?) zero qs = some c) (k : K (upd f d (.agg c)) w) : OP P n ro ⟨some d, .build T ps.toArray, ty, pos, af, gd⟩ f w K := by
  refine cd_ hd (w' := w) ?_ k
  have h := hT.run w (ps.toArray.map fun p => (p.1, ev f p.2)) (c := c) (by
    rw [jl_]
    simp only [List.map_toArray, List.map_map]
    have e : (List.map ((fun p : Nat × Value => (p.1, p.2.cells)) ∘ fun p : Nat × Operand => (p.1, ev f p.2)) ps) = qs := hp.eq
    rw [e, hc])
  have h2 : (Instr.build T (ps.toArray.map fun (i, x) => (i, ev f x))).run P w = .ok (.agg c) w := by
    simpa using h
  have e : (execOp (ev f) ⟨some d, .build T ps.toArray, ty, pos, af, gd⟩) = (do pure (.value (← Instr.build T (ps.toArray.map fun (i, x) => (i, ev f x))))) := by
    simp only [execOp]
  rw [e]
  simp only [Sem.run_bind, h2, Result.andThen_ok, Sem.run_pure]
def RVs (S : PH) : List Value → List α → Prop
  | [], [] => True
  | v :: vs, x :: l => RV S v x ∧ RVs S vs l
  | _, _ => False
theorem RVs.repL {S : PH} : ∀ {vs : List Value} {l : List α}, RVs S vs l → RepL S (vs.flatMap fun v => v.cells.toList) l ∧ vs.length = l.length
  | [], [], _ => ⟨rfl, rfl⟩
  | v :: vs, x :: l, ⟨h1, h2⟩ => by
    have ih := RVs.repL h2
    exact ⟨⟨v.cells.toList, _, by simp, h1.cells, ih.1⟩, by simp [ih.2]⟩
  | [], _ :: _, h => h.elim
  | _ :: _, [], h => h.elim
theorem RVs.size {S : PH} : ∀ {vs : List Value} {l : List α}, RVs S vs l → ∀ v ∈ vs, v.cells.size = Enc.sz α
  | [], [], _, v, hv => by simp at hv
  | u :: vs, x :: l, ⟨h1, h2⟩, v, hv => by
    rcases List.mem_cons.1 hv with rfl | hv
    · rw [← Array.length_toList]; exact Enc.len h1.cells
    · exact RVs.size h2 v hv
  | [], _ :: _, h, _, _ => h.elim
  | _ :: _, [], h, _, _ => h.elim
theorem ih_ (A B C X : List Value) (h : B.length = X.length) : dh_ (A ++ (B ++ C)).toArray A.length X = (A ++ (X ++ C)).toArray := by
  rw [← gv_ X _ _ (by simp; omega)]
  congr 1
  exact jw_ A B C X h
theorem iu_ (sz : Nat) : ∀ (vs : List Value) (k : Nat) (A Z : List Value), A.length = k * sz → Z.length = vs.length * sz → (∀ v ∈ vs, v.cells.size = sz) →
    jm_ (fun i => some (i * sz, sz)) (A ++ Z).toArray ((vs.zipIdx k).map fun p => (p.2, p.1.cells)) = some (A ++ vs.flatMap fun v => v.cells.toList).toArray
  | [], k, A, Z, hA, hZ, _ => by
    have : Z = [] := List.eq_nil_of_length_eq_zero (by simpa using hZ)
    subst this
    simp [jm_]
  | v :: vs, k, A, Z, hA, hZ, hv => by
    have h1 := hv v (by simp)
    rw [List.length_cons, Nat.add_mul, Nat.one_mul] at hZ
    simp only [List.zipIdx_cons, List.map_cons]
    unfold jm_
    simp only
    rw [if_neg (by simp [h1]; omega)]
    have hZ' : Z = Z.take sz ++ Z.drop sz := (List.take_append_drop sz Z).symm
    have e : dh_ (A ++ Z).toArray (k * sz) v.cells.toList = ((A ++ v.cells.toList) ++ Z.drop sz).toArray := by
      rw [← hA, hZ', ih_ A (Z.take sz) (Z.drop sz) v.cells.toList (by simp [h1]; omega)]
      simp
    rw [e, iu_ sz vs (k + 1) (A ++ v.cells.toList) (Z.drop sz) (by simp [hA, h1, Nat.add_mul]) (by simp; omega) (fun u hu => hv u (by simp [hu]))]
    simp [List.append_assoc]
theorem br_ {bytes : Nat} {zv : Value} {zd : α} {ps : List (Nat × Operand)} {vs : List Value} {ln : Nat} {r : List α} (hd : Nat.blt d n = true) (hT : P.underlying T = some (.slice E)) (hE0 : kx_ P α E bytes zv zd)
    (hps : (ps.map fun p => (p.1, ev f p.2)) = vs.zipIdx.map fun p => (p.2, p.1)) (hln : vs.length = ln) (hsm : ln * Enc.sz α ≤ 65536) (hsl : ln ≤ 65536) (hr : RVs S vs r) (hI : Inv w S O) (k : ∀ u w', Inv w' S (Row E u r :: O) → K (upd f d u) w') :
    OP P n ro ⟨some d, .buildSlice T ln ps.toArray, ty, pos, af, gd⟩ f w K := by
  obtain ⟨ei, hE⟩ := hE0
  obtain ⟨h1, h2⟩ := hr.repL
  have hmap : (ps.toArray.map fun (i, x) => (i, ev f x)) = (ps.map fun p => (p.1, ev f p.2)).toArray := by simp
  have hf : Instr.fill (fun i => some (i * ei.size, ei.size)) (madeCells zv.cells (ln * ei.size)) (vs.zipIdx.map fun p => (p.2, p.1)) = some (vs.flatMap fun v => v.cells.toList).toArray := by
    rw [jl_]
    have := iu_ (Enc.sz α) vs 0 [] (madeCells zv.cells (ln * ei.size)).toList (by simp) (by simp [madeCells, hln, hE.hs]) hr.size
    simp only [List.nil_append, Array.toArray_toList] at this
    rw [hE.hs] at this ⊢
    rw [← this, List.map_map]
    rfl
  have hz : ∀ w, (if ln * ei.size = 0 then (pure #[] : Sem (Array Value)) else do pure (← zeroValue E).cells).run P w = .ok (if ln * ei.size = 0 then #[] else zv.cells) w := by
    intro w
    split <;> simp [zeroValue, typeInfo, hE.hi, hE.hz]
  have hmade : ((Array.range (ln * ei.size)).map ((if ln * ei.size = 0 then #[] else zv.cells)[· % (if ln * ei.size = 0 then #[] else zv.cells).size]!)) = madeCells zv.cells (ln * ei.size) := by
    split
    · rename_i h0; rw [h0]; simp [madeCells]
    · rfl
  have hbig : ¬ (ln * ei.size > 2 ^ 24) := by rw [hE.hs]; omega
  have hrun : (Instr.buildSlice T ln (vs.zipIdx.map fun p => (p.2, p.1)).toArray).run P w = .ok (.slice (some ⟨w.heap.size, 0, none⟩) ln ln) (w.alloc (.cells (vs.flatMap fun v => v.cells.toList).toArray E)) := by
    unfold Instr.buildSlice
    have hsz : ∀ w, (sizeOf E).run P w = .ok ei.size w := fun w => by simp [sizeOf, typeInfo, hE.hi]
    simp only [Sem.run_bind, run_underlying hT, Result.andThen_ok, hsz]
    rw [if_neg hbig]
    have hzv : (zeroValue E).run P w = .ok zv w := by simp [zeroValue, typeInfo, hE.hi, hE.hz]
    by_cases h0 : ln * ei.size = 0
    · rw [if_pos h0]
      rw [if_pos h0] at hmade
      simp only [Sem.run_bind, Sem.run_pure, Result.andThen_ok, hmade, hf]
      simp [newRow]
    · rw [if_neg h0]
      rw [if_neg h0] at hmade
      simp only [Sem.run_bind, Sem.run_pure, Result.andThen_ok, hzv, hmade, hf]
      simp [newRow]
  refine cd_ hd (v := .slice (some ⟨w.heap.size, 0, none⟩) ln ln) (w' := w.alloc (.cells (vs.flatMap fun v => v.cells.toList).toArray E)) ?_ (k _ _ ?_)
  · have e : (execOp (ev f) ⟨some d, .buildSlice T ln ps.toArray, ty, pos, af, gd⟩) = (do pure (.value (← Instr.buildSlice T ln (vs.zipIdx.map fun p => (p.2, p.1)).toArray))) := by
      simp only [execOp, hmap, hps]
    rw [e]
    simp only [Sem.run_bind, hrun, Result.andThen_ok, Sem.run_pure]
  · refine (hI.new _).shut (A := Row E _ _) ?_
    refine .inr ⟨w.heap.size, ln, [], _, [], by simp [← h2, hln], ?_, h1, by omega, ?_, ?_⟩
    · simp
    · simp only [maxLen]
      omega
    · rw [← h2, hln]; simp
theorem ef_ {bytes : Nat} {zv : Value} {zd : α} {m r : List α} {ct : Array TypeId} (hd : Nat.blt d n = true) (hct : ct = #[T, T]) (hT : P.underlying T = some (.slice E)) (hE0 : kx_ P α E bytes zv zd) (hby : bytes ≤ 65536) (hsz : 0 < Enc.sz α)
    (hx : ev f x = v) (hy : ev f y = u) (hI : Inv w S (Row E v l :: O)) (hs : Src w S u m) (hr : push? l m = some r)
    (k : ∀ v' w', Inv w' S (Row E v' r :: O) → K (upd f d v') w') :
    OP P n ro ⟨some d, .call ⟨.builtin .append, #[x, y], ct⟩, ty, pos, af, gd⟩ f w K := by
  subst hct
  obtain ⟨ei, hE⟩ := hE0
  obtain ⟨hlim, rfl⟩ := kl_ hr
  obtain ⟨ua, uc, hu, hun, hur⟩ := hs
  have hnews : ∃ news : List Value, RepL S news m ∧ ∀ w' : World, (∀ (b : Nat) (o : Obj), w.heap[b]? = some o → w'.heap[b]? = some o) → (Builtin.firstCells (Enc.sz α) m.length u).run P w' = .ok news.toArray w' := by
    cases ua with
    | none =>
      have := hun rfl
      subst this
      exact ⟨[], rfl, fun w' _ => by rw [hu]; exact run_firstCells_none (P := P) w' _ _ _ _⟩
    | some ad =>
      obtain ⟨news, h1, h2⟩ := (hur ad rfl).repL
      refine ⟨news, h1, fun w' hw => ?_⟩
      rw [hu]
      refine run_firstCells_some (P := P) w' (Enc.sz α) m.length ad m.length uc news h1.len fun j q hq => ?_
      have := h2 j q hq
      unfold World.cell? at this ⊢
      cases hh : w.heap[(ad.add j).block]? with
      | none => rw [hh] at this; cases this
      | some o => rw [hh] at this; rw [hw _ _ hh]; exact this
  obtain ⟨news, hrep, hfirst⟩ := hnews
  have hlen : (Builtin.lenOf u).run P w = .ok m.length w := by rw [hu]; rfl
  have hsize : ∀ w, (sizeOf E).run P w = .ok (Enc.sz α) w := fun w => by simp [sizeOf, typeInfo, hE.hi, hE.hs]
  have hinfo : ∀ w, (typeInfo E).run P w = .ok ei w := fun w => by simp [typeInfo, hE.hi]
  have hzero : ∀ w, (zeroValue E).run P w = .ok zv w := fun w => by simp [zeroValue, typeInfo, hE.hi, hE.hz]
  have key : ∃ v' w', (Builtin.append_ #[T, T] ty #[v, u]).run P w = .ok v' w' ∧ Inv w' S (Row E v' (l ++ m) :: O) := by
    obtain ⟨h, hk, hI'⟩ := hI.open_
    rcases hk with ⟨rfl, rfl, rfl⟩ | ⟨g, cap, pre, ls, post, rfl, rfl, h3, h4, h5, h6⟩
    · -- nil
      by_cases hm : m = []
      · subst hm
        have : news = [] := hrep
        subst this
        refine ⟨.slice none 0 0, w, ?_, by simpa using hI⟩
        have := hfirst w (fun _ _ h => h)
        simp only [List.length_nil] at this hlen
        simp [Builtin.append_, run_underlying hT, hsize, hlen, this]
      · have h0 : 0 < m.length := List.length_pos_iff.2 hm
        cases ua with
        | none => exact absurd (hun rfl) hm
        | some ad =>
          obtain ⟨news', h1, h2⟩ := (hur ad rfl).repL
          subst hu
          have hrun := run_append_nil (P := P) w T ty E ei zv hT hE.hi hE.hz ad m.length uc news' (by rw [hE.hs]; exact h1.len) h2 h0 (by simp at hlim; omega) (by
            rw [hE.hb]
            have : m.length * bytes ≤ 2147483648 * 65536 := Nat.mul_le_mul (by simpa using hlim) hby
            omega)
          refine ⟨_, _, hrun, ?_⟩
          have hI2 := (hI'.drop.drew).new (.cells (news'.toArray ++ Builtin.zeroCells zv.cells (grownCap w m.length 0 E - m.length)) E)
          refine hI2.shut (A := Row E _ _) (.inr ⟨w.heap.size, grownCap w m.length 0 E, [], news', (Builtin.zeroCells zv.cells (grownCap w m.length 0 E - m.length)).toList, by simp, ?_, h1, grownCap_ge w m.length 0 E, grownCap_le_maxLen w _ _ _ (by simp only [maxLen]; simp at hlim; omega), ?_⟩)
          · congr 2
            apply Array.ext'
            simp
          · have hge := grownCap_ge w m.length 0 E
            simp only [List.nil_append, Array.length_toList, size_zeroCells, hE.hzs]
            rw [← Nat.add_mul]
            exact Nat.mul_le_mul_right _ (by omega)
    · by_cases hroom : l.length + m.length ≤ cap
      · -- room
        have hl1 := hrep.len
        have hl3 := h3.len
        have hfit : news.length ≤ post.length := by
          have := Nat.mul_le_mul_right (Enc.sz α) hroom
          rw [Nat.add_mul] at this
          omega
        have hpost : post = post.take news.length ++ post.drop news.length := (List.take_append_drop _ _).symm
        have eq1 : pre ++ (ls ++ post) = (pre ++ ls) ++ (post.take news.length ++ post.drop news.length) := by rw [← hpost, List.append_assoc]
        rw [eq1] at hI'
        obtain ⟨w', hst, hI''⟩ := db_ (P := P) (X := news) hI' (by simp; omega) (fun q hq => hrep.cell1 q hq)
        refine ⟨.slice (some ⟨g, pre.length, none⟩) (l.length + m.length) cap, w', ?_, hI''.shut (A := Row E _ _) (.inr ⟨g, cap, pre, ls ++ news, post.drop news.length, by simp, by simp [List.append_assoc], h3.append hrep, by simpa using hroom, h5, ?_⟩)⟩
        · have hf := hfirst w (fun _ _ h => h)
          have hadd : (⟨g, pre.length, none⟩ : Addr).add (l.length * Enc.sz α) = ⟨g, (pre ++ ls).length, none⟩ := by rw [di_, ← hl3]; simp
          simp [Builtin.append_, run_underlying hT, hsize, hlen, hroom, hf, hadd]
          have := hst
          simp only [List.length_append] at this
          simp [this]
        · simp only [List.length_append, List.length_drop, Nat.add_mul]
          omega
      · -- a new block
        have hb := hI'.front g _ (by simp [Hp.one]; rfl)
        have hcells := ke_ hb
        have h63 : ¬ ((((l.length + m.length : Nat) : Int)) > IntKind.i64.max ∧ (ei.bytes = 0)) := by
          rintro ⟨h, _⟩
          simp [IntKind.max, IntKind.signed, IntKind.bits] at h
          omega
        have hnext : ¬ (281474976710656 < Builtin.nextslicecap (l.length + m.length) cap * ei.bytes) := by
          have hfits := growslice_fits (need := l.length + m.length) (old := cap) (bytes := bytes) (by omega) (by
            have : (l.length + m.length) * bytes ≤ 2147483648 * 65536 := Nat.mul_le_mul hlim hby
            omega)
          rw [hE.hb]
          omega
        have hf := hfirst w.drew (fun _ _ h => h)
        have hfo := run_firstCells_some (P := P) w.drew (Enc.sz α) l.length ⟨g, pre.length, none⟩ l.length cap ls h3.len (by simpa using hcells)
        have h63' : ¬ (9223372036854775807 < ((l.length : Int) + (m.length : Int))) := by omega
        have hrun : (Builtin.append_ #[T, T] ty #[.slice (some ⟨g, pre.length, none⟩) l.length cap, u]).run P w =
            .ok (.slice (some ⟨w.heap.size, 0, none⟩) (l.length + m.length) (grownCap w (l.length + m.length) cap E))
              (w.drew.alloc (.cells (ls.toArray ++ news.toArray ++ Builtin.zeroCells zv.cells (grownCap w (l.length + m.length) cap E - (l.length + m.length))) E)) := by
          have hroom' : ¬ (l.length + m.length ≤ cap) := hroom
          simp [Builtin.append_, run_underlying hT, hsize, hlen, hinfo, hzero, hroom', h63', hnext, Question.forced, hf, hfo, newRow, grownCap]
          congr 2
          apply Array.ext'
          simp [List.append_assoc]
        refine ⟨_, _, hrun, ?_⟩
        have hI2 := (hI'.drop.drew).new (.cells (ls.toArray ++ news.toArray ++ Builtin.zeroCells zv.cells (grownCap w (l.length + m.length) cap E - (l.length + m.length))) E)
        have hge := grownCap_ge w (l.length + m.length) cap E
        refine hI2.shut (A := Row E _ _) (.inr ⟨w.heap.size, grownCap w (l.length + m.length) cap E, [], ls ++ news, (Builtin.zeroCells zv.cells (grownCap w (l.length + m.length) cap E - (l.length + m.length))).toList, by simp, ?_, h3.append hrep, by simpa using hge, grownCap_le_maxLen w _ _ _ (by simp only [maxLen]; omega), ?_⟩)
        · congr 2
          apply Array.ext'
          simp [List.append_assoc]
        · simp only [List.length_append, Array.length_toList, size_zeroCells, hE.hzs]
          rw [← Nat.add_mul]
          exact Nat.mul_le_mul_right _ (by omega)
  obtain ⟨v', w', hrun, hI'⟩ := key
  refine cd_ hd (v := v') (w' := w') ?_ (k _ _ hI')
  simp [execOp, hx, hy, resolve, invoke, builtin, hrun]
end ops
end Go.Proofs.Ytogfongmnkmegaa.Pad
