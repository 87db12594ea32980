/- Maps that the call owns. -/
import Derived.Test.YtogfongmnkmegaaPadJ
import Derived.MapKept
import Derived.Laws.StructEq
set_option linter.unusedVariables false
set_option linter.unusedSimpArgs false
namespace Go.Proofs.Ytogfongmnkmegaa.Pad
open Go
variable {ro : Option Nat}
section
variable {K V : Type} [Enc K] [Enc V]
def MRep (S : PH) : List MapEntry → List (K × V) → Prop
  | [], [] => True
  | e :: es, x :: m => RV S e.key x.1 ∧ RV S e.val x.2 ∧ MRep S es m
  | _, _ => False
theorem MRep.mono {S T : PH} (hle : S.Le T) : ∀ {es : List MapEntry} {m : List (K × V)}, MRep S es m → MRep T es m
  | [], [], _ => trivial
  | _ :: _, _ :: _, ⟨a, b, c⟩ => ⟨a.mono hle, b.mono hle, MRep.mono hle c⟩
def fc_ (g : Nat) (m : List (K × V)) : HP where
  p S h := ∃ es clock, h = Hp.one g (.map es clock) ∧ MRep S es.toList m
  mono hle h := by
    obtain ⟨es, c, e, r⟩ := h
    exact ⟨es, c, e, r.mono hle⟩
end
section
variable {K V : Type} [DecidableEq K]
def mget? : List (K × V) → K → Option V
  | [], _ => none
  | (a, v) :: m, k => if k = a then some v else mget? m k
def fq_ : List (K × V) → K → V → List (K × V)
  | [], k, v => [(k, v)]
  | (a, u) :: m, k, v => if k = a then (a, v) :: m else (a, u) :: fq_ m k v
def mdel : List (K × V) → K → List (K × V)
  | [], _ => []
  | (a, u) :: m, k => if k = a then m else (a, u) :: mdel m k
def bf_ (z : V) (m : List (K × V)) (k : K) : V := (mget? m k).getD z
def cv_ (m : List (K × V)) (k : K) : Bool := (mget? m k).isSome
end
structure KeyT (P : Program) (K : Type) [Enc K] [DecidableEq K] (T : TypeId) : Prop where
  eq : ∀ w S v u (a b : K), RV S v a → RV S u b → (Op.equal T v u).run P w = .ok (decide (a = b)) w
  now : ∃ d, P.underlying T = some d ∧ ((∀ S v u (a b : K), RV S v a → RV S u b → Instr.sameNow d v u = none) ∨ (∀ S v u (a b : K), RV S v a → RV S u b → Instr.sameNow d v u = some (decide (a = b))))
  check : ∀ w e S v (a : K), RV S v a → (Instr.checkKey e 10000 T v).run P w = .ok () w
  bits : ∀ S v u (a : K), RV S v a → RV S u a → Instr.sameBits 10000 v u = true
section
variable {K V : Type} [Enc V] [DecidableEq K] {k : K}
def gb_ (S : PH) (k : K) (es : List MapEntry) (m : List (K × V)) (i : Nat) : Option (Nat × Value) → Prop
  | none => (mget? m k = none ∧ mdel m k = m) ∧ ∀ y, fq_ m k y = m ++ [(k, y)]
  | some (j, u) => ∃ q e x, j = i + q ∧ es[q]? = some e ∧ e.val = u ∧ m[q]? = some (k, x) ∧ RV S u x ∧ (mget? m k = some x ∧ mdel m k = m.eraseIdx q) ∧ ∀ y, fq_ m k y = m.set q (k, y)
theorem hl_ {S : PH} {e : MapEntry} {es : List MapEntry} {a : K} {x : V} {m : List (K × V)} {i : Nat} (hr : RV S e.val x) (h : k = a) : gb_ S k (e :: es) ((a, x) :: m) i (some (i, e.val)) := by
  subst h
  exact ⟨0, e, x, by simp, rfl, rfl, rfl, hr, by simp [mget?, mdel], fun y => by simp [fq_]⟩
theorem hk_ {S : PH} {e : MapEntry} {es : List MapEntry} {a : K} {x : V} {m : List (K × V)} {i : Nat} (h : ¬k = a) {r : Option (Nat × Value)} (hr : gb_ S k es m (i + 1) r) : gb_ S k (e :: es) ((a, x) :: m) i r := by
  cases r with
  | none => exact ⟨by simp [mget?, mdel, h, hr.1.1, hr.1.2], fun y => by simp [fq_, h, hr.2 y]⟩
  | some p =>
    obtain ⟨j, u⟩ := p
    obtain ⟨q, e', x', h1, h2, h3, h4, h5, h6, h7⟩ := hr
    exact ⟨q + 1, e', x', by omega, by simpa using h2, h3, by simpa using h4, h5, by simp [mget?, mdel, h, h6.1, h6.2], fun y => by simp [fq_, h, h7 y]⟩
end
section
variable {P : Program} {K V : Type} [Enc K] [Enc V] [DecidableEq K] {T : TypeId} {S : PH} {v : Value} {k : K}
theorem jz_ {d : TypeDesc} (hn : ∀ S v u (a b : K), RV S v a → RV S u b → Instr.sameNow d v u = some (decide (a = b))) (hv : RV S v k) :
    ∀ (es : List MapEntry) (m : List (K × V)) (i : Nat), MRep S es m → ∃ r, Instr.findNow d v es i = some r ∧ gb_ S k es m i r
  | [], [], i, _ => ⟨none, rfl, ⟨rfl, rfl⟩, fun _ => rfl⟩
  | e :: es, (a, x) :: m, i, ⟨h1, h2, h3⟩ => by
    have hs := hn S v e.key k a hv h1
    unfold Instr.findNow
    by_cases h : k = a
    · rw [hs, decide_eq_true h]
      exact ⟨_, rfl, hl_ h2 h⟩
    · rw [hs, decide_eq_false h]
      obtain ⟨r, r1, r2⟩ := jz_ hn hv es m (i + 1) h3
      exact ⟨r, r1, hk_ h r2⟩
theorem ha_ {w : World} (he : ∀ w S v u (a b : K), RV S v a → RV S u b → (Op.equal T v u).run P w = .ok (decide (a = b)) w) (hv : RV S v k) :
    ∀ (es : List MapEntry) (m : List (K × V)) (i : Nat), MRep S es m → ∃ r, (Instr.findAsking T v es i).run P w = .ok r w ∧ gb_ S k es m i r
  | [], [], i, _ => ⟨none, by simp [Instr.findAsking], ⟨rfl, rfl⟩, fun _ => rfl⟩
  | e :: es, (a, x) :: m, i, ⟨h1, h2, h3⟩ => by
    have hs := he w S v e.key k a hv h1
    by_cases h : k = a
    · refine ⟨some (i, e.val), ?_, hl_ h2 h⟩
      unfold Instr.findAsking
      rw [Sem.run_bind, hs, decide_eq_true h]
      simp
    · obtain ⟨r, r1, r2⟩ := ha_ (w := w) he hv es m (i + 1) h3
      refine ⟨r, ?_, hk_ h r2⟩
      unfold Instr.findAsking
      rw [Sem.run_bind, hs, decide_eq_false h]
      simpa using r1
theorem KeyT.find (hK : KeyT P K T) (w : World) (hv : RV S v k) {es : List MapEntry} {m : List (K × V)} (h : MRep S es m) : ∃ r, (Instr.findKey T v es).run P w = .ok r w ∧ gb_ S k es m 0 r := by
  obtain ⟨d, hd, hn⟩ := hK.now
  unfold Instr.findKey
  rw [Sem.run_bind, run_underlying hd]
  simp only [Result.andThen_ok]
  rcases hn with hn | hn
  · match es, m, h with
    | [], [], _ => exact ⟨none, by simp [Instr.findNow], ⟨rfl, rfl⟩, fun _ => rfl⟩
    | e :: es, (a, x) :: m, h =>
      have : Instr.findNow d v (e :: es) 0 = none := by
        unfold Instr.findNow
        rw [hn S v e.key k a hv h.1]
      rw [this]
      exact ha_ hK.eq hv _ _ 0 h
  · obtain ⟨r, r1, r2⟩ := jz_ hn hv es m 0 h
    rw [r1]
    exact ⟨r, by simp, r2⟩
end
section
variable {K V : Type} [Enc K] [Enc V] {k : K}
theorem MRep.append {S : PH} : ∀ {es es' : List MapEntry} {m m' : List (K × V)}, MRep S es m → MRep S es' m' → MRep S (es ++ es') (m ++ m')
  | [], _, [], _, _, h => h
  | _ :: _, _, _ :: _, _, ⟨a, b, c⟩, h => ⟨a, b, MRep.append c h⟩
theorem MRep.modify {S : PH} {f : MapEntry → MapEntry} {y : V} (hf : ∀ e, RV S e.key k → RV S (f e).key k ∧ RV S (f e).val y) : ∀ {es : List MapEntry} {m : List (K × V)} {q : Nat} {x : V}, MRep S es m → m[q]? = some (k, x) → MRep S (es.modify q f) (m.set q (k, y))
  | [], [], _, _, _, h => by simp at h
  | e :: es, z :: m, 0, x, ⟨a, b, c⟩, h => by
    simp at h
    subst h
    exact ⟨(hf e a).1, (hf e a).2, c⟩
  | e :: es, z :: m, q + 1, x, ⟨a, b, c⟩, h => by
    simp at h
    exact ⟨a, b, MRep.modify hf c h⟩
end
section
variable {w w' : World} {S : PH} {O : List HP}
theorem Inv.turnBlk {g : Nat} {o o' : Obj} (h : Inv w S (HP.exact (Hp.one g o) :: O)) : Inv { w with heap := w.heap.setIfInBounds g o' } S (HP.exact (Hp.one g o') :: O) := by
  have hb := h.front g o (by simp [Hp.one])
  refine Inv.turn (w := w) h rfl rfl (fun b => ?_) (fun b hn => ?_) (fun b q e => ?_)
  · by_cases e : b = g <;> simp [Hp.one, e]
  · have hne : b ≠ g := by rintro rfl; simp [Hp.one] at hn
    exact (MapKept.heap_set hb).2 b hne
  · unfold Hp.one at e
    by_cases hbg : b = g
    · subst hbg
      simp at e
      subst e
      exact (MapKept.heap_set hb).1
    · simp [hbg] at e
end
theorem km_ {P : Program} {n : Nat} {f : Fr} {w : World} {F : Fr → World → Prop} {d : Nat} {ty : TypeId} {pos : String} {af : Array Edge} {gd : Option (Nat × Bool)} {T : TypeId} {K V : Type} [Enc K] [Enc V] {S : PH} {O : List HP} (hd : Nat.blt d n = true) (hI : Inv w S O) (k : ∀ g w', Inv w' S (fc_ g ([] : List (K × V)) :: O) → F (upd f d (.map (some g))) w') :
    OP P n ro ⟨some d, .makeMap T none, ty, pos, af, gd⟩ f w F :=
  cd_ (w' := w.alloc (.map #[] 0)) hd (by simp [execOp, Instr.makeMap]) (k _ _ ((hI.new _).shut (A := fc_ _ _) ⟨#[], 0, rfl, trivial⟩))
section
variable {K V : Type} [Enc K] [Enc V]
theorem MRep.erase {S : PH} : ∀ {es : List MapEntry} {m : List (K × V)} {q : Nat}, MRep S es m → MRep S (es.eraseIdx q) (m.eraseIdx q)
  | [], [], _, _ => trivial
  | e :: es, z :: m, 0, ⟨a, b, c⟩ => c
  | e :: es, z :: m, q + 1, ⟨a, b, c⟩ => ⟨a, b, MRep.erase c⟩
end
section ops
variable {P : Program} {n : Nat} {f : Fr} {w : World} {F : Fr → World → Prop} {d : Nat} {ty : TypeId} {pos : String} {af : Array Edge} {gd : Option (Nat × Bool)} {x y z : Operand} {v u : Value} {T kt et : TypeId}
  {K V : Type} [Enc K] [Enc V] [DecidableEq K] {S : PH} {O : List HP} {m : List (K × V)} {g : Nat} {k : K} {e : V}
theorem hj_ {zv : Value} {zd : V} (hT : P.underlying T = some (.map kt et)) (hK : KeyT P K kt) (hz : ∀ w, (zeroValue et).run P w = .ok zv w) (hzd : ∀ S, RV S zv zd) (hI : Inv w S (fc_ g m :: O)) (hk : RV S u k) (b : Bool) :
    ∃ q, RV S q (bf_ zd m k) ∧ (Instr.lookup T (.map (some g)) u b).run P w = .ok (if b then .tuple #[q, .bool (cv_ m k)] else q) w := by
  obtain ⟨h, ⟨es, cl, rfl, hr⟩, hI'⟩ := hI.open_
  have hb := hI'.front g _ (by simp [Hp.one]; rfl)
  obtain ⟨r, r1, r2⟩ := hK.find w hk hr
  unfold Instr.lookup
  cases r with
  | none =>
    refine ⟨zv, by unfold bf_; rw [r2.1.1]; exact hzd S, ?_⟩
    simp [run_underlying hT, MapKept.run_getObj_map hb, hK.check w _ S u k hk, r1, hz, cv_, r2.1.1]
  | some p =>
    obtain ⟨j, q⟩ := p
    obtain ⟨i, e, x', h1, h2, h3, h4, h5, h6, h7⟩ := r2
    refine ⟨q, by unfold bf_; rw [h6.1]; exact h5, ?_⟩
    simp [run_underlying hT, MapKept.run_getObj_map hb, hK.check w _ S u k hk, r1, cv_, h6.1]
theorem ge_ {zv : Value} {zd : V} (hd : Nat.blt d n = true) (hT : P.underlying T = some (.map kt et)) (hK : KeyT P K kt) (hz : ∀ w, (zeroValue et).run P w = .ok zv w) (hzd : ∀ S, RV S zv zd)
    (hx : ev f x = .map (some g)) (hy : ev f y = u) (hI : Inv w S (fc_ g m :: O)) (hk : RV S u k) (c : ∀ q, RV S q (bf_ zd m k) → F (upd f d (.tuple #[q, .bool (cv_ m k)])) w) :
    OP P n ro ⟨some d, .lookup T x y true, ty, pos, af, gd⟩ f w F := by
  obtain ⟨q, h1, h2⟩ := hj_ hT hK hz hzd hI hk true
  exact cd_ hd (by simp [execOp, hx, hy, h2]) (c q h1)
theorem ik_ {zv : Value} {zd : V} (hd : Nat.blt d n = true) (hT : P.underlying T = some (.map kt et)) (hK : KeyT P K kt) (hz : ∀ w, (zeroValue et).run P w = .ok zv w) (hzd : ∀ S, RV S zv zd)
    (hx : ev f x = .map (some g)) (hy : ev f y = u) (hI : Inv w S (fc_ g m :: O)) (hk : RV S u k) (c : ∀ q, RV S q (bf_ zd m k) → F (upd f d q) w) :
    OP P n ro ⟨some d, .lookup T x y false, ty, pos, af, gd⟩ f w F := by
  obtain ⟨q, h1, h2⟩ := hj_ hT hK hz hzd hI hk false
  exact cd_ hd (by simp [execOp, hx, hy, h2]) (c q h1)
theorem fo_ (hT : P.underlying T = some (.map kt et)) (hK : KeyT P K kt) (hI : Inv w S (fc_ g m :: O)) (hk : RV S u k) (he : RV S v e) :
    ∃ w', (Instr.mapUpdate T (.map (some g)) u v).run P w = .ok () w' ∧ Inv w' S (fc_ g (fq_ m k e) :: O) := by
  obtain ⟨h, ⟨es, cl, rfl, hr⟩, hI'⟩ := hI.open_
  have hb := hI'.front g _ (by simp [Hp.one]; rfl)
  obtain ⟨r, r1, r2⟩ := hK.find w hk hr
  have key : ∃ o, (Instr.mapUpdate T (.map (some g)) u v).run P w = .ok () { w with heap := w.heap.setIfInBounds g o } ∧ (fc_ g (fq_ m k e)).p S (Hp.one g o) := by
    unfold Instr.mapUpdate
    cases r with
    | none =>
      refine ⟨.map (es.push { key := u, val := v, born := cl }) (cl + 1), ?_, _, _, rfl, ?_⟩
      · simp [run_underlying hT, MapKept.run_getObj_map hb, hK.check w _ S u k hk, r1, MapKept.run_setObj_map _ hb]
      · rw [r2.2 e, Array.toList_push]
        exact hr.append ⟨hk, he, trivial⟩
    | some p =>
      obtain ⟨j, q⟩ := p
      obtain ⟨i, e', x', h1, h2, h3, h4, h5, h6, h7⟩ := r2
      have hj : j = i := by omega
      subst hj
      refine ⟨.map (es.modify j fun e => { e with key := u, val := v }) cl, ?_, _, _, rfl, ?_⟩
      · have h2' : es[j]? = some e' := by simpa using h2
        have hkey : RV S e'.key k := by
          have gen : ∀ {es : List MapEntry} {m : List (K × V)} {j : Nat} {e' : MapEntry} {p : K × V}, MRep S es m → es[j]? = some e' → m[j]? = some p → RV S e'.key p.1 := by
            intro es
            induction es with
            | nil => intro m j e' p hm h; simp at h
            | cons a es ih =>
              intro m j e' p hm h h'
              cases m with
              | nil => exact hm.elim
              | cons b m =>
                cases j with
                | zero => simp at h h'; subst h; subst h'; exact hm.1
                | succ j => exact ih hm.2.2 (by simpa using h) (by simpa using h')
          exact gen hr h2 h4
        have hkt : (Instr.keyThatStays e'.key u).run P w = .ok u w := by
          unfold Instr.keyThatStays
          rw [if_pos (hK.bits S _ _ k hkey hk)]
          simp
        simp [run_underlying hT, MapKept.run_getObj_map hb, hK.check w _ S u k hk, r1, h2', hkt, MapKept.run_setObj_map _ hb]
      · rw [h7 e, Array.toList_modify]
        exact MRep.modify (fun _ _ => ⟨hk, he⟩) hr h4
  obtain ⟨o, h1, h2⟩ := key
  exact ⟨_, h1, hI'.turnBlk.shut h2⟩
theorem ij_ (hT : P.underlying T = some (.map kt et)) (hK : KeyT P K kt) (hx : ev f x = .map (some g)) (hy : ev f y = u) (hz : ev f z = v) (hI : Inv w S (fc_ g m :: O)) (hk : RV S u k) (he : RV S v e)
    (c : ∀ w', Inv w' S (fc_ g (fq_ m k e) :: O) → F f w') : OP P n ro ⟨none, .mapUpdate T x y z, ty, pos, af, gd⟩ f w F := by
  obtain ⟨w', h1, h2⟩ := fo_ hT hK hI hk he
  exact ho_ (by simp [execOp, hx, hy, hz, h1]) (c _ h2)
theorem lq_ (hT : P.underlying T = some (.map kt et)) (hK : KeyT P K kt) (hx : ev f x = .map (some g)) (hy : ev f y = u) (hz : ev f z = v) (hI : Inv w S (fc_ g m :: O)) (hk : RV S u k) (he : RV S v e)
    (c : ∀ w', Inv w' S (fc_ g (fq_ m k e) :: O) → F f w') : OP P n ro ⟨none, .insert T x y z, ty, pos, af, gd⟩ f w F := by
  obtain ⟨w', h1, h2⟩ := fo_ hT hK hI hk he
  exact ho_ (by simp [execOp, hx, hy, hz, h1]) (c _ h2)
end ops
theorem keyInt {P : Program} {T : TypeId} (hT : P.underlying T = some (.int .i64)) : KeyT P Int T where
  eq w S v u a b hv hu := by
    rw [gc_ hv, gc_ hu]
    show (Op.equalIn (9999 + 1) T (.int .i64 a) (.int .i64 b)).run P w = _
    rw [run_equalIn_int w 9999 T .i64 .i64 a b hT]
    rfl
  now := ⟨_, hT, .inr fun S v u a b hv hu => by rw [gc_ hv, gc_ hu]; rfl⟩
  check w e S v a hv := by
    rw [gc_ hv]
    show (Instr.checkKey e (9999 + 1) T (.int .i64 a)).run P w = _
    unfold Instr.checkKey
    rw [Sem.run_bind, run_underlying hT]
    rfl
  bits S v u a hv hu := by rw [gc_ hv, gc_ hu]; simp [Instr.sameBits]
structure MRef where
  g : Nat
instance : Enc MRef where
  agg := false
  sz := 1
  rep _ cs x := cs = [.map (some x.g)]
  len h := by rw [h]; rfl
  one _ := rfl
  cell1 h := by intro v hv; rw [h] at hv; simp at hv; subst hv; rfl
  mono _ h := h
section
variable {P : Program} {n : Nat} {f : Fr} {w : World} {F : Fr → World → Prop} {d : Nat} {ty : TypeId} {pos : String} {af : Array Edge} {gd : Option (Nat × Bool)} {x : Operand} {v : Value} {T : TypeId} {S : PH}
theorem bx_ {β : Type} [Enc β] {y : β} (hd : Nat.blt d n = true) (hx : ev f x = v) (hp : PtS S v y) (k : F (upd f d v) w) : OP P n ro ⟨some d, .nilCheck x, ty, pos, af, gd⟩ f w F := by
  obtain ⟨a, _, e, _⟩ := hp
  exact bp_ hd hx e k
end
section
variable {P : Program} {w : World}
theorem eqF_nil {d : Nat} {xs ys : Array Value} : (Op.eqFields d xs ys []).run P w = .ok true w := rfl
theorem kb_ {d : Nat} {xs ys : Array Value} {f : Field} {fs : List Field} {a b : Value} {p q : Bool} (hn : decide (f.name ≠ "_") = true) (h1 : (part f.type xs f.offset).run P w = .ok a w) (h2 : (part f.type ys f.offset).run P w = .ok b w)
    (h3 : (Op.equalIn d f.type a b).run P w = .ok p w) (h4 : (Op.eqFields d xs ys fs).run P w = .ok q w) : (Op.eqFields d xs ys (f :: fs)).run P w = .ok (p && q) w := by
  unfold Op.eqFields
  rw [if_pos (of_decide_eq_true hn), Sem.run_bind, h1]
  simp only [Result.andThen_ok]
  rw [Sem.run_bind, h2]
  simp only [Result.andThen_ok]
  rw [Sem.run_bind, h3]
  simp only [Result.andThen_ok]
  cases p
  · rfl
  · simpa using h4
theorem mx_ (d : Nat) (t : TypeId) {xs ys : Array Value} {fs : Array Field} {r : Bool} (hu : P.underlying t = some (.struct fs)) (hp : P.stoodInHeld t = false) (h : (Op.eqFields d xs ys fs.toList).run P w = .ok r w) :
    (Op.equalIn (d + 1) t (.agg xs) (.agg ys)).run P w = .ok r w := by
  have e : P.fieldsOf t = fs := by unfold Program.fieldsOf; rw [hu]
  rw [run_equalIn_struct w d t xs ys (by rw [e]; exact hu) hp, e]
  exact h
end
end Go.Proofs.Ytogfongmnkmegaa.Pad
