/- Parts of owned rows, references, blocks that are lent, structs compared. -/
import Derived.Test.YtogfongmnkmegaaPadK
import Derived.Test.YtogfongmnkmegaaPadL
set_option linter.unusedVariables false
set_option linter.unusedSimpArgs false
namespace Go.Proofs.Ytogfongmnkmegaa.Pad
open Go
variable {ro : Option Nat}
section
variable {α : Type} [Enc α] {S : PH} {T : TypeId} {v : Value} {l : List α}
theorem RowP.part {k : Hp} {lo hi : Nat} (h : RowP T v l S k) (h1 : lo ≤ hi) (h2 : hi ≤ l.length) :
    ∃ a cap, v = .slice a l.length cap ∧ l.length ≤ cap ∧ RowP T (sliced a lo hi cap (Enc.sz α)) ((l.take hi).drop lo) S k := by
  rcases h with ⟨rfl, rfl, rfl⟩ | ⟨g, cap, pre, ls, post, rfl, rfl, h3, h4, h5, h6⟩
  · have e1 : hi = 0 := by simpa using h2
    subst e1
    have e2 : lo = 0 := by omega
    subst e2
    exact ⟨none, 0, rfl, by simp, .inl ⟨by simp [sliced], by simp, rfl⟩⟩
  · refine ⟨_, cap, rfl, h4, ?_⟩
    obtain ⟨A, B, rfl, hA, hB⟩ := h3.split hi h2
    obtain ⟨A1, A2, rfl, hA1, hA2⟩ := hA.split lo (by rw [List.length_take]; omega)
    have lA1 := hA1.len
    have lA2 := hA2.len
    have lB := hB.len
    rw [List.length_take, List.length_take] at lA1
    rw [List.length_drop, List.length_take] at lA2
    rw [List.length_drop] at lB
    have hmin1 : min hi l.length = hi := by omega
    have hmin2 : min lo (min hi l.length) = lo := by omega
    rw [hmin2] at lA1
    rw [hmin1] at lA2
    have hlen : ((l.take hi).drop lo).length = hi - lo := by rw [List.length_drop, List.length_take]; omega
    have hsz : ∀ a b : Nat, a ≤ b → (b - a) * Enc.sz α = b * Enc.sz α - a * Enc.sz α := fun a b _ => Nat.sub_mul b a _
    have hcap : cap * Enc.sz α ≤ l.length * Enc.sz α + post.length := h6
    have m1 : lo * Enc.sz α ≤ hi * Enc.sz α := Nat.mul_le_mul_right _ h1
    have m2 : hi * Enc.sz α ≤ l.length * Enc.sz α := Nat.mul_le_mul_right _ h2
    by_cases hc : cap = lo
    · have e1 : hi = lo := by omega
      subst e1
      refine .inr ⟨g, 0, pre, [], A1 ++ A2 ++ B ++ post, ?_, by simp, ?_, by omega, by simp [maxLen], by simp⟩
      · unfold sliced
        rw [if_pos hc, hc]
        have : ((l.take hi).drop hi).length = 0 := by rw [hlen]; omega
        rw [this]; simp
      · have : (l.take hi).drop hi = [] := List.eq_nil_of_length_eq_zero (by rw [hlen]; omega)
        rw [this]; exact rfl
    · refine .inr ⟨g, cap - lo, pre ++ A1, A2, B ++ post, ?_, by simp, hA2, by omega, by omega, ?_⟩
      · unfold sliced
        rw [if_neg hc, hlen]
        simp only [Option.map_some, di_, List.length_append, lA1]
      · rw [hlen, hsz lo cap (by omega), hsz lo hi h1, List.length_append, lB, hsz hi l.length h2]
        omega
theorem RV.part {lo hi : Nat} (h : RV S v l) (h1 : lo ≤ hi) (h2 : hi ≤ l.length) : ∃ a cap, v = .slice a l.length cap ∧ l.length ≤ cap ∧ RV S (sliced a lo hi cap (Enc.sz α)) ((l.take hi).drop lo) := by
  obtain ⟨a, cap, rfl, hl, hm, hn, hrow⟩ := ep_ h
  refine ⟨a, cap, rfl, hl, ?_⟩
  have hlen : ((l.take hi).drop lo).length = hi - lo := by
    rw [List.length_drop, List.length_take]; omega
  unfold sliced
  rw [← hlen]
  refine gn_ ⟨by omega, by omega, fun hnone => ?_, fun ad had i y hy => ?_⟩
  · cases a with
    | none =>
      obtain ⟨e1, e2⟩ := hn rfl
      subst e1
      exact ⟨by simp, by omega⟩
    | some ad => split at hnone <;> cases hnone
  · have hi' : i < ((l.take hi).drop lo).length := (List.getElem?_eq_some_iff.1 hy).1
    cases a with
    | none =>
      obtain ⟨e1, e2⟩ := hn rfl
      subst e1
      simp at hi'
    | some ad0 =>
      rw [if_neg (by omega)] at had
      cases had
      rw [List.getElem?_drop, List.getElem?_take] at hy
      rw [if_pos (by omega)] at hy
      obtain ⟨es, q1, q2⟩ := hrow ad0 rfl _ y hy
      refine ⟨es, q1, fun j u hu => ?_⟩
      have := q2 j u hu
      rw [dg_]
      rw [show lo * Enc.sz α + (i * Enc.sz α + j) = (lo + i) * Enc.sz α + j by rw [Nat.add_mul]; omega]
      exact this
end
section
variable {P : Program} {n : Nat} {f : Fr} {w : World} {K : Fr → World → Prop} {d : Nat} {ty : TypeId} {pos : String} {af : Array Edge} {gd : Option (Nat × Bool)} {x y z : Operand} {v u : Value} {T E : TypeId}
  {α : Type} [Enc α] {S : PH} {O : List HP} {l l' : List α} {lo hi : Int}
theorem hi_ {a : Option Addr} {len cap : Nat} (hT : P.underlying T = some (.slice E)) (hE : Shape P E (Enc.agg α) (Enc.sz α)) (h0 : 0 ≤ lo) (h1 : lo ≤ len) :
    (Instr.sliceAt T (.slice a len cap) (some (.int .i64 lo)) none none).run P w = .ok (sliced a lo.toNat len cap (Enc.sz α)) w := by
  have hel : P.elem T = E := by simp [Program.elem, hT]
  have hT' : P.underlying T = some (.slice (P.elem T)) := by rw [hel]; exact hT
  have := run_slice_l (P := P) w T a len cap hT' .i64 lo h0 h1
  rw [hel] at this
  simp [run_sliceAt_slice w T _ _ _ _ hT', this, hE.size w, Result.andThen]
theorem kj_ {a : Option Addr} {len cap : Nat} (hT : P.underlying T = some (.slice E)) (hE : Shape P E (Enc.agg α) (Enc.sz α)) (h0 : 0 ≤ hi) (h1 : hi ≤ cap) :
    (Instr.sliceAt T (.slice a len cap) none (some (.int .i64 hi)) none).run P w = .ok (sliced a 0 hi.toNat cap (Enc.sz α)) w := by
  have hel : P.elem T = E := by simp [Program.elem, hT]
  have hT' : P.underlying T = some (.slice (P.elem T)) := by rw [hel]; exact hT
  have := run_slice_h (P := P) w T a len cap hT' .i64 hi h0 h1
  rw [hel] at this
  simp [run_sliceAt_slice w T _ _ _ _ hT', this, hE.size w, Result.andThen]
theorem fp_ (hd : Nat.blt d n = true) (hT : P.underlying T = some (.slice E)) (hE : Shape P E (Enc.agg α) (Enc.sz α)) (hx : ev f x = v) (hI : Inv w S (Row E v l :: O)) (hy : ev f y = .int .i64 lo)
    (he : sub? l lo l.length = some l') (k : ∀ u, Inv w S (Row E u l' :: O) → K (upd f d u) w) : OP P n ro ⟨some d, .slice T x (some y) none none, ty, pos, af, gd⟩ f w K := by
  obtain ⟨h0, h1, h2, rfl⟩ := fn_ he
  obtain ⟨q, hq, hI'⟩ := hI.open_
  obtain ⟨a, cap, rfl, hc, hp⟩ := hq.part (lo := lo.toNat) (hi := l.length) (by omega) (Nat.le_refl _)
  refine cd_ hd (v := sliced a lo.toNat l.length cap (Enc.sz α)) (w' := w) (by simp [execOp, hx, hy, hi_ hT hE h0 h1]) (k _ (hI'.shut (A := Row E _ _) ?_))
  show RowP E _ _ S q
  simpa using hp
theorem hp_ (hd : Nat.blt d n = true) (hT : P.underlying T = some (.slice E)) (hE : Shape P E (Enc.agg α) (Enc.sz α)) (hx : ev f x = v) (hI : Inv w S (Row E v l :: O)) (hy : ev f y = .int .i64 hi)
    (he : sub? l 0 hi = some l') (k : ∀ u, Inv w S (Row E u l' :: O) → K (upd f d u) w) : OP P n ro ⟨some d, .slice T x none (some y) none, ty, pos, af, gd⟩ f w K := by
  obtain ⟨h0, h1, h2, rfl⟩ := fn_ he
  obtain ⟨q, hq, hI'⟩ := hI.open_
  obtain ⟨a, cap, rfl, hc, hp⟩ := hq.part (lo := 0) (hi := hi.toNat) (by omega) (by omega)
  refine cd_ hd (v := sliced a 0 hi.toNat cap (Enc.sz α)) (w' := w) (by simp [execOp, hx, hy, kj_ hT hE h1 (show hi ≤ (cap : Int) by omega)]) (k _ (hI'.shut (A := Row E _ _) ?_))
  show RowP E _ _ S q
  simpa using hp
def EndOf {α : Type} [Enc α] (v : Value) (l : List α) (lo : Nat) (u : Value) : Prop := ∃ a cap, v = .slice a l.length cap ∧ u = sliced a lo l.length cap (Enc.sz α)
theorem ji_ {le : List α} (hd : Nat.blt d n = true) (hT : P.underlying T = some (.slice E)) (hE : Shape P E (Enc.agg α) (Enc.sz α)) (hx : ev f x = v) (hI : Inv w S (Row E v l :: O)) (hy : ev f y = .int .i64 lo)
    (he : sub? l lo l.length = some le) (k : ∀ u, EndOf v l lo.toNat u → K (upd f d u) w) : OP P n ro ⟨some d, .slice T x (some y) none none, ty, pos, af, gd⟩ f w K := by
  obtain ⟨h0, h1, h2, rfl⟩ := fn_ he
  obtain ⟨a, cap, rfl, hc⟩ := hI.rowForm
  exact cd_ hd (v := sliced a lo.toNat l.length cap (Enc.sz α)) (w' := w) (by simp [execOp, hx, hy, hi_ hT hE h0 h1]) (k _ ⟨a, cap, rfl, rfl⟩)
theorem ll_ {op : Op} {w' : World} (h : (execOp (ev f) ⟨none, op, ty, pos, af, gd⟩).run P w = .ok (.value v) w') (k : K f w') : OP P n ro ⟨none, op, ty, pos, af, gd⟩ f w K := by
  intro a ha Q
  refine ⟨fun _ _ => trivial, ?_⟩
  rw [ha.eval, gm_ h (fun _ e => by cases e)]
  exact ⟨f, ha, k⟩
theorem mq_ {bytes : Nat} {zv : Value} {zd : α} {b : Nat} {ct : Array TypeId} (hct : ct = #[T]) (hT : P.underlying T = some (.slice E)) (hE0 : kx_ P α E bytes zv zd) (hx : ev f x = u) (hI : Inv w S (Row E v l :: O)) (hb : b ≤ l.length) (hu : EndOf v l b u)
    (k : ∀ w', Inv w' S (Row E v (l.take b ++ List.replicate (l.length - b) zd) :: O) → K f w') : OP P n ro ⟨none, .call ⟨.builtin .clear, #[x], ct⟩, ty, pos, af, gd⟩ f w K := by
  subst hct
  obtain ⟨ei, hE⟩ := hE0
  obtain ⟨a, cap, rfl, rfl⟩ := hu
  have hzero : (zeroValue E).run P w = .ok zv w := by simp [zeroValue, typeInfo, hE.hi, hE.hz]
  by_cases h0 : l.length - b = 0
  · refine ll_ (v := .tuple #[]) (w' := w) ?_ (k w ?_)
    · have : (Builtin.clear_ #[T] ty #[sliced a b l.length cap (Enc.sz α)]).run P w = .ok (.tuple #[]) w := by
        unfold sliced
        rw [h0]
        unfold Builtin.clear_
        cases hq : (if cap = b then a else a.map (·.add (b * Enc.sz α))) with
        | none => simp [run_underlying hT]
        | some q => simp [run_underlying hT]
      simp [execOp, hx, resolve, invoke, builtin, this]
    · have : b = l.length := by omega
      subst this
      simpa using hI
  · obtain ⟨q, hq, hI'⟩ := hI.open_
    rcases hq with ⟨e1, e2, e3⟩ | ⟨g, cap', pre, ls, post, e1, rfl, h3, h4, h5, h6⟩
    · subst e2; simp at h0
    · obtain ⟨rfl, rfl⟩ : a = some ⟨g, pre.length, none⟩ ∧ cap = cap' := by
        injection e1 with q1 q2 q3; exact ⟨q1, q3⟩
      obtain ⟨A, B, rfl, hA, hB⟩ := h3.split b hb
      have lA := hA.len
      have lB := hB.len
      rw [List.length_take] at lA
      rw [List.length_drop] at lB
      have hmin : min b l.length = b := by omega
      rw [hmin] at lA
      have hz : (Builtin.zeroCells zv.cells (l.length - b)).toList = (List.replicate (l.length - b) zv.cells.toList).flatten := gh_ _ _
      have hrz := RepL.replicate (hE.rep S) (l.length - b)
      have lz := hrz.len
      rw [List.length_replicate] at lz
      have eq1 : pre ++ (A ++ B ++ post) = (pre ++ A) ++ (B ++ post) := by simp [List.append_assoc]
      rw [eq1] at hI'
      obtain ⟨w', hst, hI''⟩ := db_ (P := P) (X := (List.replicate (l.length - b) zv.cells.toList).flatten) hI' (by rw [lB, lz]) (fun q hq => hrz.cell1 q hq)
      refine ll_ (v := .tuple #[]) (w' := w') ?_ (k w' (hI''.shut (A := Row E _ _) ?_))
      · have hne : cap ≠ b := by omega
        have : (Builtin.clear_ #[T] ty #[sliced (some ⟨g, pre.length, none⟩) b l.length cap (Enc.sz α)]).run P w = .ok (.tuple #[]) w' := by
          unfold sliced
          rw [if_neg hne]
          simp only [Option.map_some, di_]
          have e2 : pre.length + b * Enc.sz α = (pre ++ A).length := by simp [lA]
          rw [e2]
          unfold Builtin.clear_
          obtain ⟨m, hm⟩ : ∃ m, l.length - b = m + 1 := ⟨l.length - b - 1, by omega⟩
          have hst' := hst
          rw [← hz] at hst'
          rw [hm] at hst' ⊢
          simp only [List.length_append] at hst' ⊢
          simp [run_underlying hT, hzero, hst']
        simp [execOp, hx, resolve, invoke, builtin, this]
      · refine .inr ⟨g, cap, pre, A ++ (List.replicate (l.length - b) zv.cells.toList).flatten, post, ?_, by simp [List.append_assoc], hA.append hrz, ?_, h5, ?_⟩
        · simp; omega
        · simp; omega
        · have : (List.take b l ++ List.replicate (l.length - b) zd).length = l.length := by simp; omega
          rw [this]; exact h6
end
theorem sub_le {α : Type} {l l' : List α} {lo : Int} (h : sub? l lo l.length = some l') : lo.toNat ≤ l.length := by
  obtain ⟨h0, h1, _, _⟩ := fn_ h
  omega
structure PRef (α : Type) where
  v : α
instance {α : Type} [Enc α] : Enc (PRef α) where
  agg := false
  sz := 1
  rep S cs x := ∃ a, cs = [.pointer (some a)] ∧ PtS S (.pointer (some a)) x.v
  len h := by obtain ⟨a, e, _⟩ := h; rw [e]; rfl
  one _ := rfl
  cell1 h := by obtain ⟨a, e, _⟩ := h; intro v hv; rw [e] at hv; simp at hv; subst hv; rfl
  mono hle h := by obtain ⟨a, e, p⟩ := h; exact ⟨a, e, p.mono hle⟩
theorem lf_ {α : Type} [Enc α] {S : PH} {v : Value} {x : PRef α} (h : RV S v x) : PtS S v x.v := by
  obtain ⟨cs, ⟨a, rfl, p⟩, rfl⟩ := h
  exact p
theorem rv_ref' {α : Type} [Enc α] {S : PH} {v : Value} {x : α} (h : PtS S v x) : RV S v (⟨x⟩ : PRef α) := by
  obtain ⟨a, cs, rfl, h1, h2⟩ := h
  exact ⟨[.pointer (some a)], ⟨a, rfl, a, cs, rfl, h1, h2⟩, rfl⟩
theorem PtS.ptr {α : Type} [Enc α] {S : PH} {v : Value} {x : α} (h : PtS S v x) : ∃ a, v = .pointer (some a) := by
  obtain ⟨a, _, e, _⟩ := h; exact ⟨a, e⟩
section
variable {w : World} {S : PH} {O : List HP} {β : Type} [Enc β] {g : Nat} {B : TypeId} {cs : Array Value} {x : β}
theorem mc_ {T : PH} {h : Hp} (hc : (ax_ g B cs).p S h) (hle : h.Le T.m) (hx : Enc.rep T cs.toList x) : PtS T (.pointer (some ⟨g, 0, none⟩)) x := by
  have hc : h = Hp.one g (.cells cs B (0, 0)) := hc
  subst hc
  have hb := hle g (.cells cs B (0, 0)) (by simp [Hp.one])
  refine ⟨_, _, rfl, hx, fun j u hu => ?_⟩
  rw [di_]
  simp only [PH.cell, hb]
  simpa using hu
variable {α γ : Type} [Enc α] [Enc γ] {T1 T2 : TypeId} {v1 v2 : Value} {l1 : List α} {l2 : List γ}
theorem Inv.lendB1 (h : Inv w S (ax_ g B cs :: Row T1 v1 l1 :: O)) (hx : ∀ T, S.Le T → RV T v1 l1 → Enc.rep T cs.toList x) : ∃ T, ∃ Fr : List HP, S.Le T ∧ Inv w T Fr ∧ PtS T (.pointer (some ⟨g, 0, none⟩)) x ∧ RV T v1 l1 ∧
    ∀ {w' U} (M : List HP), ga_ M → Inv w' U (M ++ Fr) → T.Le U → Inv w' S (M ++ (ax_ g B cs :: Row T1 v1 l1 :: O)) := by
  obtain ⟨T, hs, Fr, a, b, c, e, back⟩ := Inv.lendN [ax_ g B cs, Row T1 v1 l1] h
  match hs, c with
  | [h1, h2], _ =>
    obtain ⟨p1, q1⟩ := e 0 _ _ rfl rfl
    obtain ⟨p2, q2⟩ := e 1 _ _ rfl rfl
    have r1 := RowP.rv p2 a q2
    exact ⟨T, Fr, a, b, mc_ p1 q1 (hx T a r1), r1, back⟩
end
section
variable {P : Program} {n : Nat} {f : Fr} {w : World} {F : Fr → World → Prop} {d : Nat} {ty : TypeId} {pos : String} {af : Array Edge} {gd : Option (Nat × Bool)} {x y z : Operand} {v u : Value} {T T2 kt et : TypeId} {S : PH} {O : List HP}
theorem mn_ {α : Type} [Enc α] [DecidableEq α] {a b : α} (hK : KeyT P α T) (ha : Enc.agg α = true) (hg : P.eqGuardType P.depth T = false) (h1 : RV S v a) (h2 : RV S u b) :
    (do eqGuard .eql T x y v u; pure (Value.bool (← Op.equal T v u)) : Sem Value).run P w = .ok (.bool (decide (a = b))) w := by
  have h := hK.eq w S v u a b h1 h2
  obtain ⟨xs, _, rfl⟩ := h1
  obtain ⟨ys, _, rfl⟩ := h2
  rw [ha] at h ⊢
  have hgd : (eqGuard .eql T x y (mkV true xs) (mkV true ys)).run P w = .ok () w := by
    unfold eqGuard mkV
    simp [hg]
  simp only [Sem.run_bind, hgd, Result.andThen_ok, h, Sem.run_pure]
theorem lm_ {α : Type} [Enc α] [DecidableEq α] {a b : α} (hd : Nat.blt d n = true) (hK : KeyT P α T) (ha : Enc.agg α = true) (hg : P.eqGuardType P.depth T = false) (hx : ev f x = v) (hy : ev f y = u) (h1 : RV S v a) (h2 : RV S u b) (k : F (upd f d (.bool (decide (a = b)))) w) :
    OP P n ro ⟨some d, .binOp .eql T x y T2, ty, pos, af, gd⟩ f w F := by
  obtain ⟨xs, ex⟩ : ∃ xs, v = .agg xs := by obtain ⟨cs, _, rfl⟩ := h1; rw [ha]; exact ⟨_, rfl⟩
  obtain ⟨ys, ey⟩ : ∃ xs, u = .agg xs := by obtain ⟨cs, _, rfl⟩ := h2; rw [ha]; exact ⟨_, rfl⟩
  subst ex ey
  exact cd_ hd (w' := w) (by
    have h := mn_ (P := P) (w := w) (x := x) (y := y) hK ha hg h1 h2
    have e : (execOp (ev f) ⟨some d, .binOp .eql T x y T2, ty, pos, af, gd⟩) = (do pure (.value (← (do eqGuard .eql T x y (.agg xs) (.agg ys); pure (.bool (← Op.equal T (.agg xs) (.agg ys))) : Sem Value)))) := by
      simp only [execOp, hx, hy]
      rfl
    rw [e, Sem.run_bind, h]
    rfl) k
theorem jt_ {cs : Array Value} {k : Nat} (hd : Nat.blt d n = true) (hF : ∀ w, (Instr.field T (.agg cs) k).run P w = .ok v w) (hx : ev f x = .agg cs) (c : F (upd f d v) w) : OP P n ro ⟨some d, .field T x k, ty, pos, af, gd⟩ f w F :=
  cd_ hd (w' := w) (by simp [execOp, hx, hF w]) c
theorem fx_ {fn : Func} {n t t2 g : Nat} {T B : TypeId} {f : Fr} {w : World} {S : PH} {O : List HP} {cs : Array Value} {v2 : Value} (h : fn.results = #[.cell t T, .tmp t2]) (hf : f t = .pointer (some ⟨g, 0, none⟩)) (hT : Shape P T true cs.size) (hI : Inv w S (ax_ g B cs :: O)) (h2 : f t2 = v2) :
    ku_ P fn n f w (.tuple #[.agg cs, v2]) := by
  intro a ha
  have h3 := run_loadCells_list (P := P) w ⟨g, 0, none⟩ cs.toList (fun j u hu => by
    rw [di_, hI.cell]
    simpa using hu)
  simp only [Array.length_toList, Array.toArray_toList] at h3
  have e := ha.at_ t
  have e2 := ha.at_ t2
  rw [hf] at e
  rw [h2] at e2
  simp only [Array.getD_eq_getD_getElem?] at e e2
  simp [results, h, e, e2, asAddr, loadVar, hT.agg w, hT.size w, h3]
end
end Go.Proofs.Ytogfongmnkmegaa.Pad
