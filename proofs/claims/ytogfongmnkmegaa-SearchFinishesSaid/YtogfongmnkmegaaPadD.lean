/- The operations, one lemma each. -/
import Derived.Test.YtogfongmnkmegaaPadC
import Derived.Laws.Bits
import Derived.Laws.StructEq
set_option linter.unusedVariables false
set_option linter.unusedSimpArgs false
namespace Go.Proofs.Ytogfongmnkmegaa.Pad
open Go
variable {ro : Option Nat}
def w64 (n : Int) : Int := IntKind.i64.wrap n
theorem ci_ {n : Int} (h : -9223372036854775808 ≤ n) (h' : n ≤ 9223372036854775807) : w64 n = n := by
  unfold w64
  rw [IntKind.wrap_i64]
  omega
def dv (a b : Int) : Option Int := if b = 0 then none else some (w64 (a.tdiv b))
def md (a b : Int) : Option Int := if b = 0 then none else some (a.tmod b)
theorem dv_some {a b c : Int} (h : dv a b = some c) : b ≠ 0 ∧ c = w64 (a.tdiv b) := by
  unfold dv at h
  split at h
  · cases h
  · exact ⟨‹_›, (Option.some.inj h).symm⟩
theorem md_some {a b c : Int} (h : md a b = some c) : b ≠ 0 ∧ c = a.tmod b := by
  unfold md at h
  split at h
  · cases h
  · exact ⟨‹_›, (Option.some.inj h).symm⟩
def maxI (a b : Int) : Int := if b > a then b else a
def ko_ (a b : Int) : Int := if b < a then b else a
section
variable {P : Program} {n : Nat} {f : Fr} {w : World} {K : Fr → World → Prop} {d : Nat} {ty : TypeId} {pos : String} {af : Array Edge} {gd : Option (Nat × Bool)} {x y z : Operand} {v : Value} {T : TypeId}
theorem ac_ (hd : Nat.blt d n = true) (hv : ev f x = v) (k : K (upd f d v) w) : OP P n ro ⟨some d, .move x, ty, pos, af, gd⟩ f w K :=
  cd_ hd (by simp [execOp, hv]) k
theorem ae_ (hd : Nat.blt d n = true) (hv : ev f x = v) (k : K (upd f d v) w) : OP P n ro ⟨some d, .assign x, ty, pos, af, gd⟩ f w K :=
  cd_ hd (by simp [execOp, hv]) k
theorem lo_ {a b : Value} {c : Bool} (hd : Nat.blt d n = true) (hc : ev f x = .bool c) (ha : ev f y = a) (hb : ev f z = b) (k : K (upd f d (cond c a b)) w) :
    OP P n ro ⟨some d, .pick x y z, ty, pos, af, gd⟩ f w K :=
  cd_ hd (by cases c <;> simp [execOp, hc, ha, hb, asBool]) k
theorem bb_ {a : Value} {c : Bool} (hd : Nat.blt d n = true) (hc : ev f x = .bool c) (ht : c = true) (ha : ev f y = a) (k : K (upd f d a) w) :
    OP P n ro ⟨some d, .pick x y z, ty, pos, af, gd⟩ f w K :=
  lo_ hd hc ha rfl (by rw [ht]; exact k)
theorem ay_ {b : Value} {c : Bool} (hd : Nat.blt d n = true) (hc : ev f x = .bool c) (ht : c = false) (hb : ev f z = b) (k : K (upd f d b) w) :
    OP P n ro ⟨some d, .pick x y z, ty, pos, af, gd⟩ f w K :=
  lo_ hd hc rfl hb (by rw [ht]; exact k)
section ints
variable {a b : Int} {t1 t2 : TypeId}
theorem bs_ (hd : Nat.blt d n = true) (hx : ev f x = .int .i64 a) (hy : ev f y = .int .i64 b) (k : K (upd f d (.int .i64 (w64 (a + b)))) w) : OP P n ro ⟨some d, .binOp .add t1 x y t2, ty, pos, af, gd⟩ f w K :=
  cd_ hd (by simp [execOp, hx, hy, eqGuard, binOp, Op.intArith, w64]) k
theorem ni_ (hd : Nat.blt d n = true) (hx : ev f x = .int .i64 a) (hy : ev f y = .int .i64 b) (k : K (upd f d (.int .i64 (w64 (a - b)))) w) : OP P n ro ⟨some d, .binOp .sub t1 x y t2, ty, pos, af, gd⟩ f w K :=
  cd_ hd (by simp [execOp, hx, hy, eqGuard, binOp, Op.intArith, w64]) k
theorem op_mul (hd : Nat.blt d n = true) (hx : ev f x = .int .i64 a) (hy : ev f y = .int .i64 b) (k : K (upd f d (.int .i64 (w64 (a * b)))) w) : OP P n ro ⟨some d, .binOp .mul t1 x y t2, ty, pos, af, gd⟩ f w K :=
  cd_ hd (by simp [execOp, hx, hy, eqGuard, binOp, Op.intArith, w64]) k
theorem nj_ {c : Int} (hd : Nat.blt d n = true) (hx : ev f x = .int .i64 a) (hy : ev f y = .int .i64 b) (hc : dv a b = some c) (k : K (upd f d (.int .i64 c)) w) : OP P n ro ⟨some d, .binOp .quo t1 x y t2, ty, pos, af, gd⟩ f w K := by
  obtain ⟨h0, rfl⟩ := dv_some hc
  exact cd_ hd (by simp [execOp, hx, hy, eqGuard, binOp, Op.intDiv, w64, h0]) k
theorem ln_ {c : Int} (hd : Nat.blt d n = true) (hx : ev f x = .int .i64 a) (hy : ev f y = .int .i64 b) (hc : md a b = some c) (k : K (upd f d (.int .i64 c)) w) : OP P n ro ⟨some d, .binOp .rem t1 x y t2, ty, pos, af, gd⟩ f w K := by
  obtain ⟨h0, rfl⟩ := md_some hc
  exact cd_ hd (by simp [execOp, hx, hy, eqGuard, binOp, Op.intDiv, w64, h0]) k
theorem bn_ {ik : IntKind} (hd : Nat.blt d n = true) (hx : ev f x = .int ik a) (hy : ev f y = .int ik b) (k : K (upd f d (.bool (decide (a < b)))) w) : OP P n ro ⟨some d, .binOp .lss t1 x y t2, ty, pos, af, gd⟩ f w K :=
  cd_ hd (by simp [execOp, hx, hy, eqGuard, binOp, Op.intCmp]) k
theorem lp_ {ik : IntKind} (hd : Nat.blt d n = true) (hx : ev f x = .int ik a) (hy : ev f y = .int ik b) (k : K (upd f d (.bool (decide (a ≤ b)))) w) : OP P n ro ⟨some d, .binOp .leq t1 x y t2, ty, pos, af, gd⟩ f w K :=
  cd_ hd (by simp [execOp, hx, hy, eqGuard, binOp, Op.intCmp]) k
theorem dw_ {ik : IntKind} (hd : Nat.blt d n = true) (hx : ev f x = .int ik a) (hy : ev f y = .int ik b) (k : K (upd f d (.bool (decide (b < a)))) w) : OP P n ro ⟨some d, .binOp .gtr t1 x y t2, ty, pos, af, gd⟩ f w K :=
  cd_ hd (by simp [execOp, hx, hy, eqGuard, binOp, Op.intCmp]) k
theorem fd_ {ik : IntKind} (hd : Nat.blt d n = true) (hx : ev f x = .int ik a) (hy : ev f y = .int ik b) (k : K (upd f d (.bool (decide (b ≤ a)))) w) : OP P n ro ⟨some d, .binOp .geq t1 x y t2, ty, pos, af, gd⟩ f w K :=
  cd_ hd (by simp [execOp, hx, hy, eqGuard, binOp, Op.intCmp]) k
theorem es_ {ik : IntKind} (hd : Nat.blt d n = true) (hx : ev f x = .int ik a) (hy : ev f y = .int ik b) (k : K (upd f d (.bool (a == b))) w) : OP P n ro ⟨some d, .binOp .eql t1 x y t2, ty, pos, af, gd⟩ f w K :=
  cd_ hd (by simp [execOp, hx, hy, eqGuard, binOp, Op.intCmp]) k
theorem cz_ {ik : IntKind} (hd : Nat.blt d n = true) (hx : ev f x = .int ik a) (hy : ev f y = .int ik b) (k : K (upd f d (.bool (a != b))) w) : OP P n ro ⟨some d, .binOp .neq t1 x y t2, ty, pos, af, gd⟩ f w K :=
  cd_ hd (by simp [execOp, hx, hy, eqGuard, binOp, Op.intCmp]) k
theorem op_max {ct : Array TypeId} (hd : Nat.blt d n = true) (hx : ev f x = .int .i64 a) (hy : ev f y = .int .i64 b) (k : K (upd f d (.int .i64 (maxI a b))) w) :
    OP P n ro ⟨some d, .call ⟨.builtin .max, #[x, y], ct⟩, ty, pos, af, gd⟩ f w K :=
  cd_ hd (by simp [execOp, hx, hy, resolve, invoke, builtin, Builtin.max_, Builtin.max2, maxI]) k
theorem nk_ {ct : Array TypeId} (hd : Nat.blt d n = true) (hx : ev f x = .int .i64 a) (hy : ev f y = .int .i64 b) (k : K (upd f d (.int .i64 (ko_ a b))) w) :
    OP P n ro ⟨some d, .call ⟨.builtin .min, #[x, y], ct⟩, ty, pos, af, gd⟩ f w K :=
  cd_ hd (by simp [execOp, hx, hy, resolve, invoke, builtin, Builtin.min_, Builtin.min2, ko_]) k
end ints
theorem dm_ {b : Bool} {t1 : TypeId} (hd : Nat.blt d n = true) (hx : ev f x = .bool b) (k : K (upd f d (.bool (!b))) w) : OP P n ro ⟨some d, .unOp .not t1 x, ty, pos, af, gd⟩ f w K :=
  cd_ hd (by simp [execOp, hx, Op.unary]) k
theorem bk_ {vs : Array Value} {i : Nat} (hd : Nat.blt d n = true) (hx : ev f x = .tuple vs) (hi : vs[i]? = some v) (k : K (upd f d v) w) : OP P n ro ⟨some d, .extract x i, ty, pos, af, gd⟩ f w K :=
  cd_ hd (by simp [execOp, hx, Instr.extract, hi]) k
theorem fk_ {fn : Fn} {fi ca : Array Operand} {fv cv : Array Value} (hd : Nat.blt d n = true) (h1 : fi.map (ev f) = fv) (h2 : ca.map (ev f) = cv) (k : K (upd f d (.func fn fv cv)) w) :
    OP P n ro ⟨some d, .makeFunc fn fi ca, ty, pos, af, gd⟩ f w K :=
  cd_ hd (by simp [execOp, Instr.makeFunc, h1, h2]) k
theorem nl_ {a : Option Addr} {l c : Nat} {E : TypeId} (hd : Nat.blt d n = true) (hT : P.underlying T = some (.slice E)) (hx : ev f x = .slice a l c) (k : K (upd f d (.int .i64 l)) w) :
    OP P n ro ⟨some d, .call ⟨.builtin .len, #[x], #[T]⟩, ty, pos, af, gd⟩ f w K :=
  cd_ hd (by simp [execOp, hx, resolve, invoke, builtin, Builtin.len_, run_underlying hT, goInt]) k
theorem bg_ {α : Type} [Enc α] {S : PH} {l : List α} {E : TypeId} (hd : Nat.blt d n = true) (hT : P.underlying T = some (.slice E)) (hx : ev f x = v) (hr : RV S v l) (k : K (upd f d (.int .i64 l.length)) w) :
    OP P n ro ⟨some d, .call ⟨.builtin .len, #[x], #[T]⟩, ty, pos, af, gd⟩ f w K := by
  obtain ⟨a, cap, rfl, _⟩ := ep_ hr
  exact nl_ hd hT hx k
theorem bp_ {a : Addr} (hd : Nat.blt d n = true) (hx : ev f x = v) (hp : v = .pointer (some a)) (k : K (upd f d v) w) : OP P n ro ⟨some d, .nilCheck x, ty, pos, af, gd⟩ f w K := by
  subst hp
  exact cd_ hd (by simp [execOp, hx]) k
def ct_ (P : Program) (T : TypeId) (k off : Nat) : Prop := ∀ w a, (Instr.fieldAt T (.pointer (some a)) k).run P w = .ok (.pointer (some (a.add off))) w
theorem az_ {k off : Nat} {a : Addr} (hd : Nat.blt d n = true) (hF : ct_ P T k off) (hx : ev f x = v) (hp : v = .pointer (some a)) (c : K (upd f d (am_ v off)) w) :
    OP P n ro ⟨some d, .fieldAddr T x k, ty, pos, af, gd⟩ f w K := by
  subst hp
  exact cd_ hd (by simp [execOp, hx, hF w a, am_]) c
theorem PtT.ptr {α : Type} [Enc α] {S : PH} {p : Value} {x : α} (h : PtT w S p x) : ∃ a, p = .pointer (some a) := by
  obtain ⟨a, _, e, _⟩ := h
  exact ⟨a, e⟩
theorem aj_ {α : Type} [Enc α] {S : PH} {s : α} {k off : Nat} (hd : Nat.blt d n = true) (hF : ct_ P T k off) (hx : ev f x = v) (hp : PtT w S v s) (c : K (upd f d (am_ v off)) w) :
    OP P n ro ⟨some d, .fieldAddr T x k, ty, pos, af, gd⟩ f w K := by
  obtain ⟨a, e⟩ := hp.ptr
  exact az_ hd hF hx e c
structure Shape (P : Program) (T : TypeId) (agg : Bool) (sz : Nat) : Prop where
  agg : ∀ w, (isAgg T).run P w = .ok agg w
  size : ∀ w, (sizeOf T).run P w = .ok sz w
theorem gg_ {E : TypeId} {a : Addr} {l c sz : Nat} {i : Int} {agg : Bool} (hd : Nat.blt d n = true) (hT : P.underlying T = some (.slice E)) (hE : Shape P E agg sz)
    (hx : ev f x = .slice (some a) l c) (hi : ev f y = .int .i64 i) (h0 : 0 ≤ i) (hl : i.toNat < l) (k : K (upd f d (.pointer (some (a.add (i.toNat * sz))))) w) :
    OP P n ro ⟨some d, .indexAddr T x y, ty, pos, af, gd⟩ f w K :=
  cd_ hd (by
    have h1 : 0 ≤ i ∧ i < (l : Int) := ⟨h0, by omega⟩
    simp [execOp, hx, hi, Instr.indexAt, asIntOf, run_underlying hT, h1, hE.size w]) k
theorem ao_ {α : Type} [Enc α] {S : PH} {ls : List α} {E : TypeId} {i : Int} {e : α} (hd : Nat.blt d n = true) (hT : P.underlying T = some (.slice E)) (hE : Shape P E (Enc.agg α) (Enc.sz α))
    (hx : ev f x = v) (hr : RV S v ls) (hi : ev f y = .int .i64 i) (he : at? ls i = some e) (k : K (upd f d (ah_ v i (Enc.sz α))) w) :
    OP P n ro ⟨some d, .indexAddr T x y, ty, pos, af, gd⟩ f w K := by
  obtain ⟨a, cap, rfl, hl, hm, hn, _⟩ := ep_ hr
  obtain ⟨h0, hlt, _⟩ := bv_ he
  cases a with
  | none => rw [(hn rfl).1] at hlt; simp at hlt
  | some ad => exact gg_ hd hT hE hx hi h0 hlt k
theorem kk_ {α : Type} [Enc α] {S : PH} {p : Value} {e : α} (hT : Shape P T (Enc.agg α) (Enc.sz α)) (hp : PtT w S p e) :
    ∃ v, (Instr.loadAt T p).run P w = .ok v w ∧ RV S v e := by
  obtain ⟨a, cs, rfl, hr, hc⟩ := hp
  have hl := Enc.len hr
  cases ha : Enc.agg α with
  | true =>
    refine ⟨.agg cs.toArray, ?_, cs, hr, by rw [ha]; rfl⟩
    have h1 := hT.agg w
    rw [ha] at h1
    have h2 := run_loadCells_list (P := P) w a cs hc
    rw [hl] at h2
    simp [Instr.loadAt, Instr.sureAddr, loadVar, h1, hT.size w, h2]
  | false =>
    have h1 := hT.agg w
    rw [ha] at h1
    have hs := Enc.one (α := α) ha
    rw [hs] at hl
    match cs, hl with
    | [c], _ =>
      have hcell := hc 0 c rfl
      have e0 : a.add 0 = a := by simp [Addr.add]
      rw [e0] at hcell
      refine ⟨c, ?_, [c], hr, by rw [ha]; rfl⟩
      simp [Instr.loadAt, Instr.sureAddr, loadVar, h1, load, hcell, Sem.run]
theorem aq_ {α : Type} [Enc α] {S : PH} {e : α} (hd : Nat.blt d n = true) (hT : Shape P T (Enc.agg α) (Enc.sz α)) (hx : ev f x = v) (hp : PtT w S v e) (k : ∀ u, RV S u e → K (upd f d u) w) :
    OP P n ro ⟨some d, .load T x, ty, pos, af, gd⟩ f w K := by
  obtain ⟨u, hu, hr⟩ := kk_ hT hp
  exact cd_ hd (by simp [execOp, hx, hu]) (k u hr)
theorem av_ {S : PH} {e : Int} (hd : Nat.blt d n = true) (hT : Shape P T false 1) (hx : ev f x = v) (hp : PtT w S v e) (k : K (upd f d (.int .i64 e)) w) :
    OP P n ro ⟨some d, .load T x, ty, pos, af, gd⟩ f w K :=
  aq_ hd hT hx hp fun u hu => by rw [gc_ hu]; exact k
theorem gf_ {S : PH} {e : Bool} (hd : Nat.blt d n = true) (hT : Shape P T false 1) (hx : ev f x = v) (hp : PtT w S v e) (k : K (upd f d (.bool e)) w) :
    OP P n ro ⟨some d, .load T x, ty, pos, af, gd⟩ f w K :=
  aq_ hd hT hx hp fun u hu => by rw [rv_bool hu]; exact k
section own
variable {S : PH} {O : List HP} {g i : Nat} {B : TypeId} {cs : Array Value}
theorem cr_ (hd : Nat.blt d n = true) (hI : Inv w S O) (hx : ev f x = v) (k : ∀ g w', Inv w' S (ax_ g T v.cells :: O) → K (upd f d (.pointer (some ⟨g, 0, none⟩))) w') :
    OP P n ro ⟨some d, .box T x, ty, pos, af, gd⟩ f w K :=
  cd_ (w' := w.alloc (.cells v.cells T)) hd (by simp [execOp, hx, Instr.box, newVar, newRow]) (k _ _ (hI.alloc T v.cells))
def hd_ (P : Program) (T : TypeId) (z : Value) : Prop := ∀ w, (zeroValue T).run P w = .ok z w
theorem cl_ {z : Value} (hd : Nat.blt d n = true) (hI : Inv w S O) (hz : hd_ P T z) (k : ∀ g w', Inv w' S (ax_ g T z.cells :: O) → K (upd f d (.pointer (some ⟨g, 0, none⟩))) w') :
    OP P n ro ⟨some d, .alloc T, ty, pos, af, gd⟩ f w K :=
  cd_ (w' := w.alloc (.cells z.cells T)) hd (by simp [execOp, Instr.alloc, hz w, newVar, newRow]) (k _ _ (hI.alloc T z.cells))
theorem di_ (g i j : Nat) : (⟨g, i, none⟩ : Addr).add j = ⟨g, i + j, none⟩ := by unfold Addr.add; split <;> simp_all
theorem bz_ {c : Value} (hd : Nat.blt d n = true) (hT : Shape P T false 1) (hI : Inv w S (ax_ g B cs :: O)) (hx : ev f x = .pointer (some ⟨g, i, none⟩)) (hc : cs[i]? = some c) (k : K (upd f d c) w) :
    OP P n ro ⟨some d, .load T x, ty, pos, af, gd⟩ f w K :=
  cd_ hd (by simp [execOp, hx, Instr.loadAt, Instr.sureAddr, loadVar, hT.agg w, load, Sem.run, hI.cell, hc]) k
theorem cg_ {sz : Nat} {l : List Value} (hd : Nat.blt d n = true) (hT : Shape P T true sz) (hI : Inv w S (ax_ g B cs :: O)) (hx : ev f x = .pointer (some ⟨g, i, none⟩))
    (hl : (cs.toList.drop i).take sz = l) (hs : l.length = sz) (k : K (upd f d (.agg l.toArray)) w) :
    OP P n ro ⟨some d, .load T x, ty, pos, af, gd⟩ f w K := by
  have h2 := run_loadCells_list (P := P) w ⟨g, i, none⟩ l (fun j u hu => by
    rw [di_, hI.cell]
    rw [← hl, List.getElem?_take] at hu
    split at hu
    · rw [List.getElem?_drop] at hu
      simpa using hu
    · cases hu)
  rw [hs] at h2
  exact cd_ hd (by simp [execOp, hx, Instr.loadAt, Instr.sureAddr, loadVar, hT.agg w, hT.size w, h2]) k
def dh_ (cs : Array Value) : Nat → List Value → Array Value
  | _, [] => cs
  | i, v :: vs => dh_ (cs.setIfInBounds i v) (i + 1) vs
theorem gv_ (vs : List Value) : ∀ (cs : Array Value) (i : Nat), i + vs.length ≤ cs.size → (cs.toList.take i ++ vs ++ cs.toList.drop (i + vs.length)).toArray = dh_ cs i vs := by
  induction vs with
  | nil => intro cs i _; simp [dh_]
  | cons v vs ih =>
    intro cs i h
    simp only [List.length_cons] at h
    unfold dh_
    rw [← ih (cs.setIfInBounds i v) (i + 1) (by simp; omega)]
    have e := list_seg_step cs.toList i v vs (by simp; omega)
    apply congrArg
    simpa [Array.toList_setIfInBounds] using e.symm
theorem jg_ {sz : Nat} (hT : ∀ w, (sizeOf T).run P w = .ok sz w) (hI : Inv w S (ax_ g B cs :: O)) (hs : v.cells.size = sz) (hb : i + sz ≤ cs.size) (h1 : ∀ u ∈ v.cells.toList, u.oneCell' = true) :
    ∃ w', (Instr.storeAt T (.pointer (some ⟨g, i, none⟩)) v).run P w = .ok () w' ∧ Inv w' S (ax_ g B (dh_ cs i v.cells.toList) :: O) := by
  have hst := run_storeCells_at P g i B v.cells.toList 0 cs w hI.blk (by simp; omega) h1
  simp only [Nat.add_zero] at hst
  rw [gv_ v.cells.toList cs i (by simp; omega)] at hst
  refine ⟨_, by simp [Instr.storeAt, Instr.sureAddr, storeVar, hT w, hs, hst]; rfl, ?_⟩
  exact hI.setRow
theorem bo_ {sz : Nat} {agg : Bool} (hT : Shape P T agg sz) (hI : Inv w S (ax_ g B cs :: O)) (hx : ev f x = .pointer (some ⟨g, i, none⟩)) (hy : ev f y = v)
    (hs : v.cells.size = sz) (hb : i + sz ≤ cs.size) (h1 : v.cells.toList.all (·.oneCell') = true) (k : ∀ w', Inv w' S (ax_ g B (dh_ cs i v.cells.toList) :: O) → K f w') :
    OP P n ro ⟨none, .store T x y, ty, pos, af, gd⟩ f w K := by
  obtain ⟨w', h, hI'⟩ := jg_ hT.size hI hs hb (fun u hu => List.all_eq_true.1 h1 u hu)
  exact ho_ (by simp [execOp, hx, hy, h]) (k w' hI')
end own
end
end Go.Proofs.Ytogfongmnkmegaa.Pad
