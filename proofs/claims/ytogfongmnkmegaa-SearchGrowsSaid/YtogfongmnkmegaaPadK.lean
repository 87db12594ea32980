/- Maps that the call owns. -/
import Derived.Test.YtogfongmnkmegaaPadJ
import Derived.MapKept
import Derived.Laws.StructEq
set_option linter.unusedVariables false
set_option linter.unusedSimpArgs false
namespace Go.Proofs.Ytogfongmnkmegaa.Pad
open Go

section
variable {K V : Type} [Enc K] [Enc V]
/-- Entries that stand for a list of pairs, in the order in which they came. -/
def MRep (S : PH) : List MapEntry → List (K × V) → Prop
  | [], [] => True
  | e :: es, x :: m => RV S e.key x.1 ∧ RV S e.val x.2 ∧ MRep S es m
  | _, _ => False
theorem MRep.mono {S T : PH} (hle : S.Le T) : ∀ {es : List MapEntry} {m : List (K × V)}, MRep S es m → MRep T es m
  | [], [], _ => trivial
  | _ :: _, _ :: _, ⟨a, b, c⟩ => ⟨a.mono hle, b.mono hle, MRep.mono hle c⟩
/-- A map that the call owns. -/
def MapB (g : Nat) (m : List (K × V)) : HP where
  p S h := ∃ es clock, h = Hp.one g (.map es clock) ∧ MRep S es.toList m
  mono hle h := by
    obtain ⟨es, c, e, r⟩ := h
    exact ⟨es, c, e, r.mono hle⟩
end

section
variable {K V : Type} [DecidableEq K]
def mget? : List (K × V) → K → Option V
  | [], _ => none
  | (a, v) :: m, k => if k = a then some v else mget? m k
def mset : List (K × V) → K → V → List (K × V)
  | [], k, v => [(k, v)]
  | (a, u) :: m, k, v => if k = a then (a, v) :: m else (a, u) :: mset m k v
/-- What is looked up: the value, or the zero value. -/
def mlook (z : V) (m : List (K × V)) (k : K) : V := (mget? m k).getD z
def mhas (m : List (K × V)) (k : K) : Bool := (mget? m k).isSome
end

/-- What keys of a type do. -/
structure KeyT (P : Program) (K : Type) [Enc K] [DecidableEq K] (T : TypeId) : Prop where
  eq : ∀ w S v u (a b : K), RV S v a → RV S u b → (Op.equal T v u).run P w = .ok (decide (a = b)) w
  now : ∃ d, P.underlying T = some d ∧ ((∀ S v u (a b : K), RV S v a → RV S u b → Instr.sameNow d v u = none) ∨ (∀ S v u (a b : K), RV S v a → RV S u b → Instr.sameNow d v u = some (decide (a = b))))
  check : ∀ w e S v (a : K), RV S v a → (Instr.checkKey e 10000 T v).run P w = .ok () w
  bits : ∀ S v u (a : K), RV S v a → RV S u a → Instr.sameBits 10000 v u = true

section
variable {K V : Type} [Enc V] [DecidableEq K] {k : K}
/-- Where a key stands. -/
def FoundAt (S : PH) (k : K) (es : List MapEntry) (m : List (K × V)) (i : Nat) : Option (Nat × Value) → Prop
  | none => mget? m k = none ∧ ∀ y, mset m k y = m ++ [(k, y)]
  | some (j, u) => ∃ q e x, j = i + q ∧ es[q]? = some e ∧ e.val = u ∧ m[q]? = some (k, x) ∧ RV S u x ∧ mget? m k = some x ∧ ∀ y, mset m k y = m.set q (k, y)
theorem found_here {S : PH} {e : MapEntry} {es : List MapEntry} {a : K} {x : V} {m : List (K × V)} {i : Nat} (hr : RV S e.val x) (h : k = a) : FoundAt S k (e :: es) ((a, x) :: m) i (some (i, e.val)) := by
  subst h
  exact ⟨0, e, x, by simp, rfl, rfl, rfl, hr, by simp [mget?], fun y => by simp [mset]⟩
theorem found_next {S : PH} {e : MapEntry} {es : List MapEntry} {a : K} {x : V} {m : List (K × V)} {i : Nat} (h : ¬k = a) {r : Option (Nat × Value)} (hr : FoundAt S k es m (i + 1) r) : FoundAt S k (e :: es) ((a, x) :: m) i r := by
  cases r with
  | none => exact ⟨by simp [mget?, h, hr.1], fun y => by simp [mset, h, hr.2 y]⟩
  | some p =>
    obtain ⟨j, u⟩ := p
    obtain ⟨q, e', x', h1, h2, h3, h4, h5, h6, h7⟩ := hr
    exact ⟨q + 1, e', x', by omega, by simpa using h2, h3, by simpa using h4, h5, by simp [mget?, h, h6], fun y => by simp [mset, h, h7 y]⟩

end
section
variable {P : Program} {K V : Type} [Enc K] [Enc V] [DecidableEq K] {T : TypeId} {S : PH} {v : Value} {k : K}
theorem find_now {d : TypeDesc} (hn : ∀ S v u (a b : K), RV S v a → RV S u b → Instr.sameNow d v u = some (decide (a = b))) (hv : RV S v k) :
    ∀ (es : List MapEntry) (m : List (K × V)) (i : Nat), MRep S es m → ∃ r, Instr.findNow d v es i = some r ∧ FoundAt S k es m i r
  | [], [], i, _ => ⟨none, rfl, rfl, fun _ => rfl⟩
  | e :: es, (a, x) :: m, i, ⟨h1, h2, h3⟩ => by
    have hs := hn S v e.key k a hv h1
    unfold Instr.findNow
    by_cases h : k = a
    · rw [hs, decide_eq_true h]
      exact ⟨_, rfl, found_here h2 h⟩
    · rw [hs, decide_eq_false h]
      obtain ⟨r, r1, r2⟩ := find_now hn hv es m (i + 1) h3
      exact ⟨r, r1, found_next h r2⟩
theorem find_asking {w : World} (he : ∀ w S v u (a b : K), RV S v a → RV S u b → (Op.equal T v u).run P w = .ok (decide (a = b)) w) (hv : RV S v k) :
    ∀ (es : List MapEntry) (m : List (K × V)) (i : Nat), MRep S es m → ∃ r, (Instr.findAsking T v es i).run P w = .ok r w ∧ FoundAt S k es m i r
  | [], [], i, _ => ⟨none, by simp [Instr.findAsking], rfl, fun _ => rfl⟩
  | e :: es, (a, x) :: m, i, ⟨h1, h2, h3⟩ => by
    have hs := he w S v e.key k a hv h1
    by_cases h : k = a
    · refine ⟨some (i, e.val), ?_, found_here h2 h⟩
      unfold Instr.findAsking
      rw [Sem.run_bind, hs, decide_eq_true h]
      simp
    · obtain ⟨r, r1, r2⟩ := find_asking (w := w) he hv es m (i + 1) h3
      refine ⟨r, ?_, found_next h r2⟩
      unfold Instr.findAsking
      rw [Sem.run_bind, hs, decide_eq_false h]
      simpa using r1
theorem KeyT.find (hK : KeyT P K T) (w : World) (hv : RV S v k) {es : List MapEntry} {m : List (K × V)} (h : MRep S es m) : ∃ r, (Instr.findKey T v es).run P w = .ok r w ∧ FoundAt S k es m 0 r := by
  obtain ⟨d, hd, hn⟩ := hK.now
  unfold Instr.findKey
  rw [Sem.run_bind, run_underlying hd]
  simp only [Result.andThen_ok]
  rcases hn with hn | hn
  · match es, m, h with
    | [], [], _ => exact ⟨none, by simp [Instr.findNow], rfl, fun _ => rfl⟩
    | e :: es, (a, x) :: m, h =>
      have : Instr.findNow d v (e :: es) 0 = none := by
        unfold Instr.findNow
        rw [hn S v e.key k a hv h.1]
      rw [this]
      exact find_asking hK.eq hv _ _ 0 h
  · obtain ⟨r, r1, r2⟩ := find_now hn hv es m 0 h
    rw [r1]
    exact ⟨r, by simp, r2⟩

end
section
variable {K V : Type} [Enc K] [Enc V] {k : K}
theorem MRep.append {S : PH} : ∀ {es es' : List MapEntry} {m m' : List (K × V)}, MRep S es m → MRep S es' m' → MRep S (es ++ es') (m ++ m')
  | [], _, [], _, _, h => h
  | _ :: _, _, _ :: _, _, ⟨a, b, c⟩, h => ⟨a, b, MRep.append c h⟩
theorem MRep.modify {S : PH} {f : MapEntry → MapEntry} {y : V} (hf : ∀ e, RV S e.key k → RV S (f e).key k ∧ RV S (f e).val y) : ∀ {es : List MapEntry} {m : List (K × V)} {q : Nat} {x : V}, MRep S es m → m[q]? = some (k, x) → MRep S (es.modify q f) (m.set q (k, y))
  | [], [], _, _, _, h => by simp at h
  | e :: es, z :: m, 0, x, ⟨a, b, c⟩, h => by
    simp at h
    subst h
    exact ⟨(hf e a).1, (hf e a).2, c⟩
  | e :: es, z :: m, q + 1, x, ⟨a, b, c⟩, h => by
    simp at h
    exact ⟨a, b, MRep.modify hf c h⟩
end

section
variable {w w' : World} {S : PH} {O : List HP}
/-- A block of the call's own turns into another. -/
theorem Inv.turnBlk {g : Nat} {o o' : Obj} (h : Inv w S (HP.exact (Hp.one g o) :: O)) : Inv { w with heap := w.heap.setIfInBounds g o' } S (HP.exact (Hp.one g o') :: O) := by
  have hb := h.front g o (by simp [Hp.one])
  refine Inv.turn (w := w) h rfl rfl (fun b => ?_) (fun b hn => ?_) (fun b q e => ?_)
  · by_cases e : b = g <;> simp [Hp.one, e]
  · have hne : b ≠ g := by rintro rfl; simp [Hp.one] at hn
    exact (MapKept.heap_set hb).2 b hne
  · unfold Hp.one at e
    by_cases hbg : b = g
    · subst hbg
      simp at e
      subst e
      exact (MapKept.heap_set hb).1
    · simp [hbg] at e
end

theorem op_makeMap {P : Program} {n : Nat} {f : Fr} {w : World} {F : Fr → World → Prop} {d : Nat} {ty : TypeId} {pos : String} {af : Array Edge} {gd : Option (Nat × Bool)} {T : TypeId} {K V : Type} [Enc K] [Enc V] {S : PH} {O : List HP} (hd : Nat.blt d n = true) (hI : Inv w S O) (k : ∀ g w', Inv w' S (MapB g ([] : List (K × V)) :: O) → F (upd f d (.map (some g))) w') :
    OP P n ⟨some d, .makeMap T none, ty, pos, af, gd⟩ f w F :=
  op_val (w' := w.alloc (.map #[] 0)) hd (by simp [execOp, Instr.makeMap]) (k _ _ ((hI.new _).shut (A := MapB _ _) ⟨#[], 0, rfl, trivial⟩))

section ops
variable {P : Program} {n : Nat} {f : Fr} {w : World} {F : Fr → World → Prop} {d : Nat} {ty : TypeId} {pos : String} {af : Array Edge} {gd : Option (Nat × Bool)} {x y z : Operand} {v u : Value} {T kt et : TypeId}
  {K V : Type} [Enc K] [Enc V] [DecidableEq K] {S : PH} {O : List HP} {m : List (K × V)} {g : Nat} {k : K} {e : V}

/-- A lookup in a map that is owned: what comes back. -/
theorem run_lookup {zv : Value} {zd : V} (hT : P.underlying T = some (.map kt et)) (hK : KeyT P K kt) (hz : ∀ w, (zeroValue et).run P w = .ok zv w) (hzd : ∀ S, RV S zv zd) (hI : Inv w S (MapB g m :: O)) (hk : RV S u k) (b : Bool) :
    ∃ q, RV S q (mlook zd m k) ∧ (Instr.lookup T (.map (some g)) u b).run P w = .ok (if b then .tuple #[q, .bool (mhas m k)] else q) w := by
  obtain ⟨h, ⟨es, cl, rfl, hr⟩, hI'⟩ := hI.open_
  have hb := hI'.front g _ (by simp [Hp.one]; rfl)
  obtain ⟨r, r1, r2⟩ := hK.find w hk hr
  unfold Instr.lookup
  cases r with
  | none =>
    refine ⟨zv, by unfold mlook; rw [r2.1]; exact hzd S, ?_⟩
    simp [run_underlying hT, MapKept.run_getObj_map hb, hK.check w _ S u k hk, r1, hz, mhas, r2.1]
  | some p =>
    obtain ⟨j, q⟩ := p
    obtain ⟨i, e, x', h1, h2, h3, h4, h5, h6, h7⟩ := r2
    refine ⟨q, by unfold mlook; rw [h6]; exact h5, ?_⟩
    simp [run_underlying hT, MapKept.run_getObj_map hb, hK.check w _ S u k hk, r1, mhas, h6]
theorem op_lookup_ok {zv : Value} {zd : V} (hd : Nat.blt d n = true) (hT : P.underlying T = some (.map kt et)) (hK : KeyT P K kt) (hz : ∀ w, (zeroValue et).run P w = .ok zv w) (hzd : ∀ S, RV S zv zd)
    (hx : ev f x = .map (some g)) (hy : ev f y = u) (hI : Inv w S (MapB g m :: O)) (hk : RV S u k) (c : ∀ q, RV S q (mlook zd m k) → F (upd f d (.tuple #[q, .bool (mhas m k)])) w) :
    OP P n ⟨some d, .lookup T x y true, ty, pos, af, gd⟩ f w F := by
  obtain ⟨q, h1, h2⟩ := run_lookup hT hK hz hzd hI hk true
  exact op_val hd (by simp [execOp, hx, hy, h2]) (c q h1)
theorem op_lookup {zv : Value} {zd : V} (hd : Nat.blt d n = true) (hT : P.underlying T = some (.map kt et)) (hK : KeyT P K kt) (hz : ∀ w, (zeroValue et).run P w = .ok zv w) (hzd : ∀ S, RV S zv zd)
    (hx : ev f x = .map (some g)) (hy : ev f y = u) (hI : Inv w S (MapB g m :: O)) (hk : RV S u k) (c : ∀ q, RV S q (mlook zd m k) → F (upd f d q) w) :
    OP P n ⟨some d, .lookup T x y false, ty, pos, af, gd⟩ f w F := by
  obtain ⟨q, h1, h2⟩ := run_lookup hT hK hz hzd hI hk false
  exact op_val hd (by simp [execOp, hx, hy, h2]) (c q h1)
theorem run_mapUpdate (hT : P.underlying T = some (.map kt et)) (hK : KeyT P K kt) (hI : Inv w S (MapB g m :: O)) (hk : RV S u k) (he : RV S v e) :
    ∃ w', (Instr.mapUpdate T (.map (some g)) u v).run P w = .ok () w' ∧ Inv w' S (MapB g (mset m k e) :: O) := by
  obtain ⟨h, ⟨es, cl, rfl, hr⟩, hI'⟩ := hI.open_
  have hb := hI'.front g _ (by simp [Hp.one]; rfl)
  obtain ⟨r, r1, r2⟩ := hK.find w hk hr
  have key : ∃ o, (Instr.mapUpdate T (.map (some g)) u v).run P w = .ok () { w with heap := w.heap.setIfInBounds g o } ∧ (MapB g (mset m k e)).p S (Hp.one g o) := by
    unfold Instr.mapUpdate
    cases r with
    | none =>
      refine ⟨.map (es.push { key := u, val := v, born := cl }) (cl + 1), ?_, _, _, rfl, ?_⟩
      · simp [run_underlying hT, MapKept.run_getObj_map hb, hK.check w _ S u k hk, r1, MapKept.run_setObj_map _ hb]
      · rw [r2.2 e, Array.toList_push]
        exact hr.append ⟨hk, he, trivial⟩
    | some p =>
      obtain ⟨j, q⟩ := p
      obtain ⟨i, e', x', h1, h2, h3, h4, h5, h6, h7⟩ := r2
      have hj : j = i := by omega
      subst hj
      refine ⟨.map (es.modify j fun e => { e with key := u, val := v }) cl, ?_, _, _, rfl, ?_⟩
      · have h2' : es[j]? = some e' := by simpa using h2
        have hkey : RV S e'.key k := by
          have gen : ∀ {es : List MapEntry} {m : List (K × V)} {j : Nat} {e' : MapEntry} {p : K × V}, MRep S es m → es[j]? = some e' → m[j]? = some p → RV S e'.key p.1 := by
            intro es
            induction es with
            | nil => intro m j e' p hm h; simp at h
            | cons a es ih =>
              intro m j e' p hm h h'
              cases m with
              | nil => exact hm.elim
              | cons b m =>
                cases j with
                | zero => simp at h h'; subst h; subst h'; exact hm.1
                | succ j => exact ih hm.2.2 (by simpa using h) (by simpa using h')
          exact gen hr h2 h4
        have hkt : (Instr.keyThatStays e'.key u).run P w = .ok u w := by
          unfold Instr.keyThatStays
          rw [if_pos (hK.bits S _ _ k hkey hk)]
          simp
        simp [run_underlying hT, MapKept.run_getObj_map hb, hK.check w _ S u k hk, r1, h2', hkt, MapKept.run_setObj_map _ hb]
      · rw [h7 e, Array.toList_modify]
        exact MRep.modify (fun _ _ => ⟨hk, he⟩) hr h4
  obtain ⟨o, h1, h2⟩ := key
  exact ⟨_, h1, hI'.turnBlk.shut h2⟩
theorem op_mapUpdate (hT : P.underlying T = some (.map kt et)) (hK : KeyT P K kt) (hx : ev f x = .map (some g)) (hy : ev f y = u) (hz : ev f z = v) (hI : Inv w S (MapB g m :: O)) (hk : RV S u k) (he : RV S v e)
    (c : ∀ w', Inv w' S (MapB g (mset m k e) :: O) → F f w') : OP P n ⟨none, .mapUpdate T x y z, ty, pos, af, gd⟩ f w F := by
  obtain ⟨w', h1, h2⟩ := run_mapUpdate hT hK hI hk he
  exact op_unit (by simp [execOp, hx, hy, hz, h1]) (c _ h2)
theorem op_insert (hT : P.underlying T = some (.map kt et)) (hK : KeyT P K kt) (hx : ev f x = .map (some g)) (hy : ev f y = u) (hz : ev f z = v) (hI : Inv w S (MapB g m :: O)) (hk : RV S u k) (he : RV S v e)
    (c : ∀ w', Inv w' S (MapB g (mset m k e) :: O) → F f w') : OP P n ⟨none, .insert T x y z, ty, pos, af, gd⟩ f w F := by
  obtain ⟨w', h1, h2⟩ := run_mapUpdate hT hK hI hk he
  exact op_unit (by simp [execOp, hx, hy, hz, h1]) (c _ h2)
end ops

/-! ### Keys -/
theorem keyInt {P : Program} {T : TypeId} (hT : P.underlying T = some (.int .i64)) : KeyT P Int T where
  eq w S v u a b hv hu := by
    rw [rv_int hv, rv_int hu]
    show (Op.equalIn (9999 + 1) T (.int .i64 a) (.int .i64 b)).run P w = _
    rw [run_equalIn_int w 9999 T .i64 .i64 a b hT]
    rfl
  now := ⟨_, hT, .inr fun S v u a b hv hu => by rw [rv_int hv, rv_int hu]; rfl⟩
  check w e S v a hv := by
    rw [rv_int hv]
    show (Instr.checkKey e (9999 + 1) T (.int .i64 a)).run P w = _
    unfold Instr.checkKey
    rw [Sem.run_bind, run_underlying hT]
    rfl
  bits S v u a hv hu := by rw [rv_int hv, rv_int hu]; simp [Instr.sameBits]
/-- How deep calls may go. -/
def fuel_ : Nat := 1000000
/-- A map's reference, in data. -/
structure MRef where
  g : Nat
instance : Enc MRef where
  agg := false
  sz := 1
  rep _ cs x := cs = [.map (some x.g)]
  len h := by rw [h]; rfl
  one _ := rfl
  cell1 h := by intro v hv; rw [h] at hv; simp at hv; subst hv; rfl
  mono _ h := h
theorem rv_mref {S : PH} {v : Value} {x : MRef} (h : RV S v x) : v = .map (some x.g) := by
  obtain ⟨cs, hr, rfl⟩ := h
  have hr : cs = [.map (some x.g)] := hr
  subst hr
  rfl
def mapBlk (v : Value) : Nat := match v with
  | .map (some g) => g
  | _ => 0
section
variable {P : Program} {n : Nat} {f : Fr} {w : World} {F : Fr → World → Prop} {d : Nat} {ty : TypeId} {pos : String} {af : Array Edge} {gd : Option (Nat × Bool)} {x : Operand} {v : Value} {T : TypeId} {S : PH}
theorem op_load_map {e : MRef} (hd : Nat.blt d n = true) (hT : Shape P T false 1) (hx : ev f x = v) (hp : PtT w S v e) (k : F (upd f d (.map (some e.g))) w) :
    OP P n ⟨some d, .load T x, ty, pos, af, gd⟩ f w F :=
  op_load hd hT hx hp fun u hu => by rw [rv_mref hu]; exact k
theorem op_nilCheck_s {β : Type} [Enc β] {y : β} (hd : Nat.blt d n = true) (hx : ev f x = v) (hp : PtS S v y) (k : F (upd f d v) w) : OP P n ⟨some d, .nilCheck x, ty, pos, af, gd⟩ f w F := by
  obtain ⟨a, _, e, _⟩ := hp
  exact op_nilCheck hd hx e k
end
/-! ### Structs compared -/
section
variable {P : Program} {w : World}
theorem eqF_nil {d : Nat} {xs ys : Array Value} : (Op.eqFields d xs ys []).run P w = .ok true w := rfl
theorem eqF_cons {d : Nat} {xs ys : Array Value} {f : Field} {fs : List Field} {a b : Value} {p q : Bool} (hn : decide (f.name ≠ "_") = true) (h1 : (part f.type xs f.offset).run P w = .ok a w) (h2 : (part f.type ys f.offset).run P w = .ok b w)
    (h3 : (Op.equalIn d f.type a b).run P w = .ok p w) (h4 : (Op.eqFields d xs ys fs).run P w = .ok q w) : (Op.eqFields d xs ys (f :: fs)).run P w = .ok (p && q) w := by
  unfold Op.eqFields
  rw [if_pos (of_decide_eq_true hn), Sem.run_bind, h1]
  simp only [Result.andThen_ok]
  rw [Sem.run_bind, h2]
  simp only [Result.andThen_ok]
  rw [Sem.run_bind, h3]
  simp only [Result.andThen_ok]
  cases p
  · rfl
  · simpa using h4
theorem eqStruct (d : Nat) (t : TypeId) {xs ys : Array Value} {fs : Array Field} {r : Bool} (hu : P.underlying t = some (.struct fs)) (hp : P.stoodInHeld t = false) (h : (Op.eqFields d xs ys fs.toList).run P w = .ok r w) :
    (Op.equalIn (d + 1) t (.agg xs) (.agg ys)).run P w = .ok r w := by
  have e : P.fieldsOf t = fs := by unfold Program.fieldsOf; rw [hu]
  rw [run_equalIn_struct w d t xs ys (by rw [e]; exact hu) hp, e]
  exact h
end
end Go.Proofs.Ytogfongmnkmegaa.Pad
