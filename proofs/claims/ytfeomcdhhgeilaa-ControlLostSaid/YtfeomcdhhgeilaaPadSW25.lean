/- A part of the proof: what the functions of the program compute, shown over the model. -/
import Derived.Test.YtfeomcdhhgeilaaPadSP
import Derived.Test.YtfeomcdhhgeilaaPadSW1
import Derived.Test.YtfeomcdhhgeilaaPadSW2
import Derived.KernelRfl
set_option linter.unusedVariables false
namespace Go.Proofs.Ytfeomcdhhgeilaa.Pad
open Go Go.Proofs
set_option maxHeartbeats 4000000 in
set_option maxRecDepth 100000 in
theorem F60_ok {w : World} {S : PH} {Fr : List HP} {a0 : Control_cutter} {v0 : Value} {a1 : Control_place} {v1 : Value} {a2 : Bool} {r : Control_place} (hI : Inv w S (Fr)) (h0_ : PtS S v0 a0) (h1_ : RV S v1 a1) (h : F60 (⟨a0.ticks, a0.wait, a0.door, ⟨0⟩⟩ : Control_cutter) a1 a2 = some r) :
    Calls Try.prog 60 [v0, v1, (Value.bool (a2))].toArray w (DoneV S Fr (Value.agg #[(Value.int .i64 (r.tick)), (Value.int .i64 (r.door.left)), (Value.bool (r.door.shut))])) := by
 unfold F60 at h
 have e1 := Control_place.inv h1_
 subst e1
 refine calls_enter (n := 48) (vs := [v0, (Value.agg #[(Value.int .i64 (a1.tick)), (Value.int .i64 (a1.door.left)), (Value.bool (a1.door.shut))]), (Value.bool (a2))]) Try.func60 rfl rfl rfl ?_
 refine wp_seq' ?_
 refine wp_region' ?_
 refine wl_op rfl (op_box (v := (Value.agg #[(Value.int .i64 (a1.tick)), (Value.int .i64 (a1.door.left)), (Value.bool (a1.door.shut))])) rfl hI rfl (fun g1 w1 I1 => ?_))
 obtain ⟨S1, le1, I2, p1⟩ := Inv.boxFreeze (x := a1) I1 (Control_place.rv (s := a1))
 refine wl_op rfl (op_alloc (z := (Value.agg #[(Value.int .i64 (0)), (Value.int .i64 (0)), (Value.bool (false))])) rfl I2 zo99 (fun g2 w2 (I3 : Inv w2 S1 (Cells g2 99 #[(Value.int .i64 (0)), (Value.int .i64 (0)), (Value.bool (false))] :: Fr)) => ?_))
 refine wl_nil ?_
 refine wp_seq' ?_
 obtain ⟨x1, hx1, h⟩ := bnd h
 refine wp_draw (sps := [⟨some 9, [], [0], fun vs_ T_ => fr0 vs_ 0 = v0, [], [], [], fun _ h_ => h_⟩, ⟨some 10, [0], [1], fun vs_ T_ => fr0 vs_ 0 = v0, [], [], [], fun _ h_ => h_⟩, ⟨some 11, [0, 1], [2], fun vs_ T_ => fr0 vs_ 0 = (fieldPtr v0 0), [], [], [], fun _ h_ => h_⟩, ⟨some 12, [0, 1, 2], [3], fun vs_ T_ => RV T_ (fr0 vs_ 0) a0.ticks, [], [], [], fun hle_ h_ => h_.mono hle_⟩, ⟨some 13, [], [4], fun vs_ T_ => fr0 vs_ 0 = (fieldPtr (Value.pointer (some ⟨g1, 0, none⟩)) 0), [], [], [], fun _ h_ => h_⟩, ⟨some 14, [4], [5], fun vs_ T_ => fr0 vs_ 0 = (Value.int .i64 (a1.tick)), [], [], [], fun _ h_ => h_⟩, ⟨some 15, [0, 1, 2, 3, 4, 5], [6, 3], fun vs_ T_ => fr0 vs_ 0 = (elemPtr (fr0 vs_ 1) (a1.tick) (Enc.sz Control_tick)), [], [], [], fun _ h_ => h_⟩, ⟨some 16, [0, 1, 2, 3, 4, 5, 6], [7], fun vs_ T_ => RV T_ (fr0 vs_ 0) x1, [], [], [], fun hle_ h_ => h_.mono hle_⟩, ⟨some 7, [], [8], fun vs_ T_ => ∃ g_, fr0 vs_ 0 = Value.pointer (some ⟨g_, 0, none⟩), [], [], [0], fun _ h_ => h_⟩, ⟨none, [0, 1, 2, 3, 4, 5, 6, 7, 8], [], fun vs_ T_ => True, [], [0], [1], fun _ h_ => h_⟩]) (tks := [⟨some 8, some 9, [8], fun vs_ => Cells (ptrBlk (fr0 vs_ 0)) 87 #[(Value.bool (false)), (Value.slice none 0 0), (Value.slice none 0 0), (Value.slice none 0 0), (Value.slice none 0 0), (Value.slice none 0 0)]⟩, ⟨some 9, none, [7, 8], fun vs_ => Cells (ptrBlk (fr0 vs_ 1)) 87 #[(Value.bool (x1.power)), (cellAt (fr0 vs_ 0) 1), (cellAt (fr0 vs_ 0) 2), (cellAt (fr0 vs_ 0) 3), (cellAt (fr0 vs_ 0) 4), (cellAt (fr0 vs_ 0) 5)]⟩]) (O := Cells g2 99 #[(Value.int .i64 (0)), (Value.int .i64 (0)), (Value.bool (false))] :: Fr) rfl (by kernel_rfl) I3 ⟨?_, ?_, ?_, ?_, ?_, ?_, ?_, ?_, ?_, ?_, trivial⟩ ?_
 ·
  intro vs1 f w5 S2 X1 le2 hA1 hK1 hI1
  have I6 : Inv w5 S2 (X1) := hI1
  refine opg_plain rfl rfl (op_move (v := v0) rfl (hK1 0 (keep_of rfl)) ?_)
  refine ⟨_, _, rfl, PH.Le.refl _, ?_, ?_⟩
  ·
   exact rfl
  ·
   exact I6
 ·
  intro vs2 f w6 S3 X2 le3 hA2 hK2 hI2
  have I7 : Inv w6 S3 (X2) := hI2
  have q1 : f 9 = v0 := vt (hA2.at_ 0 rfl _ rfl) rfl
  refine opg_plain rfl rfl (op_nilCheck_s (v := v0) rfl q1 (h0_.mono (le1.trans le3)) ?_)
  refine ⟨_, _, rfl, PH.Le.refl _, ?_, ?_⟩
  ·
   exact rfl
  ·
   exact I7
 ·
  intro vs3 f w7 S4 X3 le4 hA3 hK3 hI3
  have I8 : Inv w7 S4 (X3) := hI3
  have q2 : f 10 = v0 := vt (hA3.at_ 1 rfl _ rfl) rfl
  refine opg_plain rfl rfl (op_fieldAddr_t (v := v0) rfl fa95_0 q2 ((h0_.mono (le1.trans le4)).at_ I8) ?_)
  refine ⟨_, _, rfl, PH.Le.refl _, ?_, ?_⟩
  ·
   exact rfl
  ·
   exact I8
 ·
  intro vs4 f w8 S5 X4 le5 hA4 hK4 hI4
  have I9 : Inv w8 S5 (X4) := hI4
  have q3 : f 11 = (fieldPtr v0 0) := vt (hA4.at_ 2 rfl _ rfl) rfl
  refine opg_plain rfl rfl (op_load (v := (fieldPtr v0 0)) (e := a0.ticks) rfl sh72 q3 (((h0_.mono (le1.trans le5)).at_ I9).fld Control_cutter.fld0) (fun u3 hu3 => ?_))
  obtain ⟨z1, m1, k1, e2⟩ := rv_form hu3
  subst e2
  refine ⟨_, _, rfl, PH.Le.refl _, ?_, ?_⟩
  ·
   exact hu3
  ·
   exact I9
 ·
  intro vs5 f w9 S6 X5 le6 hA5 hK5 hI5
  have I10 : Inv w9 S6 (X5) := hI5
  refine opg_plain rfl rfl (op_fieldAddr_t (v := (Value.pointer (some ⟨g1, 0, none⟩))) rfl fa99_0 (hK5 4 (keep_of rfl)) ((p1.mono le6).at_ I10) ?_)
  refine ⟨_, _, rfl, PH.Le.refl _, ?_, ?_⟩
  ·
   exact rfl
  ·
   exact I10
 ·
  intro vs6 f w10 S7 X6 le7 hA6 hK6 hI6
  have I11 : Inv w10 S7 (X6) := hI6
  have q4 : f 13 = (fieldPtr (Value.pointer (some ⟨g1, 0, none⟩)) 0) := vt (hA6.at_ 0 rfl _ rfl) rfl
  refine opg_plain rfl rfl (op_load_int (v := (fieldPtr (Value.pointer (some ⟨g1, 0, none⟩)) 0)) (e := a1.tick) rfl sh3 q4 (((p1.mono le7).at_ I11).fld Control_place.fld0) ?_)
  refine ⟨_, _, rfl, PH.Le.refl _, ?_, ?_⟩
  ·
   exact rfl
  ·
   exact I11
 ·
  intro vs7 f w11 S8 X7 le8 hA7 hK7 hI7
  have I12 : Inv w11 S8 (X7) := hI7
  have q5 : f 12 = vs7 3 := (hA7.at_ 3 rfl _ rfl).1 _ rfl
  have r1 : RV S8 (vs7 3) a0.ticks := (hA7.at_ 3 rfl _ rfl).2
  obtain ⟨u4, hu4⟩ : ∃ u, vs7 3 = u := ⟨_, rfl⟩
  rw [hu4] at q5 r1
  obtain ⟨z2, m2, k2, e3⟩ := rv_form r1
  subst e3
  have q6 : f 14 = (Value.int .i64 (a1.tick)) := vt (hA7.at_ 5 rfl _ rfl) rfl
  refine opg_plain rfl rfl (op_indexAddr_rv (v := (Value.slice z2 m2 k2)) (i := a1.tick) (e := x1) rfl Try.underlying72 sh87 q5 r1 q6 hx1 ?_)
  refine ⟨_, _, rfl, PH.Le.refl _, ?_, ?_⟩
  ·
   show (elemPtr (Value.slice z2 m2 k2) (a1.tick) (Enc.sz Control_tick)) = (elemPtr (vs7 3) (a1.tick) (Enc.sz Control_tick))
   simp only [hu4] <;> rfl
  ·
   exact I12
 ·
  intro vs8 f w12 S9 X8 le9 hA8 hK8 hI8
  have I13 : Inv w12 S9 (X8) := hI8
  have q7 : f 12 = vs8 3 := (hA8.at_ 3 rfl _ rfl).1 _ rfl
  have r2 : RV S9 (vs8 3) a0.ticks := (hA8.at_ 3 rfl _ rfl).2
  obtain ⟨u5, hu5⟩ : ∃ u, vs8 3 = u := ⟨_, rfl⟩
  rw [hu5] at q7 r2
  obtain ⟨z3, m3, k3, e4⟩ := rv_form r2
  subst e4
  have q8 : f 14 = (Value.int .i64 (a1.tick)) := vt (hA8.at_ 5 rfl _ rfl) rfl
  have q9 : f 15 = (elemPtr (vs8 3) (a1.tick) (Enc.sz Control_tick)) := vt (hA8.at_ 6 rfl _ rfl) rfl
  simp only [hu5] at q9
  have q9 : f 15 = (elemPtr (Value.slice z3 m3 k3) (a1.tick) (Enc.sz Control_tick)) := q9
  refine opg_plain rfl rfl (op_load (v := (elemPtr (Value.slice z3 m3 k3) (a1.tick) (Enc.sz Control_tick))) (e := x1) rfl sh87 q9 (r2.elem I13.in_ hx1) (fun u6 hu6 => ?_))
  obtain ⟨c1, c2, c3, c4, c5, e5, r3, r4, r5, r6, r7⟩ := Control_tick.inv hu6
  subst e5
  obtain ⟨z4, m4, k4, e6⟩ := rv_form r3
  subst e6
  obtain ⟨z5, m5, k5, e7⟩ := rv_form r4
  subst e7
  obtain ⟨z6, m6, k6, e8⟩ := rv_form r5
  subst e8
  obtain ⟨z7, m7, k7, e9⟩ := rv_form r6
  subst e9
  obtain ⟨z8, m8, k8, e10⟩ := rv_form r7
  subst e10
  refine ⟨_, _, rfl, PH.Le.refl _, ?_, ?_⟩
  ·
   exact (Control_tick.rv (s := x1) r3 r4 r5 r6 r7)
  ·
   exact I13
 ·
  intro vs9 f w13 S10 X9 le10 hA9 hK9 hI9
  have I14 : Inv w13 S10 (X9) := hI9
  refine opg_plain rfl rfl (op_alloc (z := (Value.agg #[(Value.bool (false)), (Value.slice none 0 0), (Value.slice none 0 0), (Value.slice none 0 0), (Value.slice none 0 0), (Value.slice none 0 0)])) rfl I14 zo87 (fun g3 w14 (I15 : Inv w14 S10 (Cells g3 87 #[(Value.bool (false)), (Value.slice none 0 0), (Value.slice none 0 0), (Value.slice none 0 0), (Value.slice none 0 0), (Value.slice none 0 0)] :: X9)) => ?_))
  refine ⟨_, _, rfl, PH.Le.refl _, ?_, ?_⟩
  ·
   exact ⟨_, rfl⟩
  ·
   exact I15
 ·
  intro vs10 f w15 S11 X10 le11 hA10 hK10 hI10
  have I16 : Inv w15 S11 (Cells (ptrBlk (vs10 8)) 87 #[(Value.bool (false)), (Value.slice none 0 0), (Value.slice none 0 0), (Value.slice none 0 0), (Value.slice none 0 0), (Value.slice none 0 0)] :: X10) := hI10
  have q10 : f 16 = vs10 7 := (hA10.at_ 7 rfl _ rfl).1 _ rfl
  have r8 : RV S11 (vs10 7) x1 := (hA10.at_ 7 rfl _ rfl).2
  obtain ⟨u7, hu7⟩ : ∃ u, vs10 7 = u := ⟨_, rfl⟩
  rw [hu7] at q10 r8
  obtain ⟨c6, c7, c8, c9, c10, e11, r9, r10, r11, r12, r13⟩ := Control_tick.inv r8
  subst e11
  obtain ⟨z9, m9, k9, e12⟩ := rv_form r9
  subst e12
  obtain ⟨z10, m10, k10, e13⟩ := rv_form r10
  subst e13
  obtain ⟨z11, m11, k11, e14⟩ := rv_form r11
  subst e14
  obtain ⟨z12, m12, k12, e15⟩ := rv_form r12
  subst e15
  obtain ⟨z13, m13, k13, e16⟩ := rv_form r13
  subst e16
  obtain ⟨g4, e17⟩ := (hA10.at_ 8 rfl _ rfl).2
  have q11 : f 7 = Value.pointer (some ⟨g4, 0, none⟩) := ((hA10.at_ 8 rfl _ rfl).1 _ rfl).trans e17
  have e17 : vs10 8 = Value.pointer (some ⟨g4, 0, none⟩) := e17
  have I17 := I16
  rw [e17] at I17
  refine opg_plain rfl rfl (op_store (v := (Value.agg #[(Value.bool (x1.power)), (Value.slice z9 m9 k9), (Value.slice z10 m10 k10), (Value.slice z11 m11 k11), (Value.slice z12 m12 k12), (Value.slice z13 m13 k13)])) (cs := #[(Value.bool (false)), (Value.slice none 0 0), (Value.slice none 0 0), (Value.slice none 0 0), (Value.slice none 0 0), (Value.slice none 0 0)]) sh87 I17 q11 q10 rfl (Nat.le_of_ble_eq_true rfl) rfl (fun w16 (I18 : Inv w16 S11 (Cells (ptrBlk (Value.pointer (some ⟨g4, 0, none⟩))) 87 #[(Value.bool (x1.power)), (Value.slice z9 m9 k9), (Value.slice z10 m10 k10), (Value.slice z11 m11 k11), (Value.slice z12 m12 k12), (Value.slice z13 m13 k13)] :: X10)) => ?_))
  refine ⟨undef, _, rfl, PH.Le.refl _, ?_, ?_⟩
  ·
   exact trivial
  ·
   show Inv _ _ (Cells (ptrBlk (vs10 8)) 87 #[(Value.bool (x1.power)), (cellAt (vs10 7) 1), (cellAt (vs10 7) 2), (cellAt (vs10 7) 3), (cellAt (vs10 7) 4), (cellAt (vs10 7) 5)] :: X10)
   simp only [hu7, e17]
   exact I18
 ·
  intro vs11 f w17 S12 le12 hF1 hK11 hI11
  have e18 : f 0 = v0 := (hK11 0 (keep_all rfl)).trans rfl
  have e19 : f 2 = (Value.bool (a2)) := (hK11 2 (keep_all rfl)).trans rfl
  have e20 : f 4 = (Value.pointer (some ⟨g1, 0, none⟩)) := (hK11 4 (keep_all rfl)).trans rfl
  have e21 : f 6 = (Value.pointer (some ⟨g2, 0, none⟩)) := (hK11 6 (keep_all rfl)).trans rfl
  have I19 : Inv w17 S12 (Cells (ptrBlk (vs11 8)) 87 #[(Value.bool (x1.power)), (cellAt (vs11 7) 1), (cellAt (vs11 7) 2), (cellAt (vs11 7) 3), (cellAt (vs11 7) 4), (cellAt (vs11 7) 5)] :: Cells g2 99 #[(Value.int .i64 (0)), (Value.int .i64 (0)), (Value.bool (false))] :: Fr) := hI11
  have q12 : f 16 = vs11 7 := (hF1.at_ 7 rfl _ rfl).1 _ rfl
  have r14 : RV S12 (vs11 7) x1 := (hF1.at_ 7 rfl _ rfl).2
  obtain ⟨u8, hu8⟩ : ∃ u, vs11 7 = u := ⟨_, rfl⟩
  rw [hu8] at q12 r14
  have I20 := I19
  rw [hu8] at I20
  obtain ⟨c11, c12, c13, c14, c15, e22, r15, r16, r17, r18, r19⟩ := Control_tick.inv r14
  subst e22
  obtain ⟨z14, m14, k14, e23⟩ := rv_form r15
  subst e23
  obtain ⟨z15, m15, k15, e24⟩ := rv_form r16
  subst e24
  obtain ⟨z16, m16, k16, e25⟩ := rv_form r17
  subst e25
  obtain ⟨z17, m17, k17, e26⟩ := rv_form r18
  subst e26
  obtain ⟨z18, m18, k18, e27⟩ := rv_form r19
  subst e27
  obtain ⟨g5, e28⟩ := (hF1.at_ 8 rfl _ rfl).2
  have q13 : f 7 = Value.pointer (some ⟨g5, 0, none⟩) := ((hF1.at_ 8 rfl _ rfl).1 _ rfl).trans e28
  have e28 : vs11 8 = Value.pointer (some ⟨g5, 0, none⟩) := e28
  have I21 := I20
  rw [e28] at I21
  refine wp_seq' ?_
  obtain ⟨x2, hx2, h⟩ := bnd h
  refine wp_draw (sps := [⟨some 17, [], [0], fun vs_ T_ => fr0 vs_ 0 = (Value.pointer (some ⟨g5, 4, none⟩)), [], [], [], fun _ h_ => h_⟩, ⟨some 18, [0], [1], fun vs_ T_ => fr0 vs_ 0 = (Value.slice z17 m17 k17), [0], [], [], fun _ h_ => h_⟩, ⟨some 19, [], [2], fun vs_ T_ => fr0 vs_ 0 = v0, [], [], [], fun _ h_ => h_⟩, ⟨some 20, [2], [3], fun vs_ T_ => fr0 vs_ 0 = v0, [], [], [], fun _ h_ => h_⟩, ⟨some 21, [2, 3], [4], fun vs_ T_ => fr0 vs_ 0 = (fieldPtr v0 2), [], [], [], fun _ h_ => h_⟩, ⟨some 22, [2, 3, 4], [5], fun vs_ T_ => fr0 vs_ 0 = (Value.int .i64 (a0.door)), [], [], [], fun _ h_ => h_⟩, ⟨some 23, [0, 1, 2, 3, 4, 5], [6], fun vs_ T_ => fr0 vs_ 0 = (elemPtr (Value.slice z17 m17 k17) (a0.door) (Enc.sz Int)), [], [], [], fun _ h_ => h_⟩, ⟨some 24, [0, 1, 2, 3, 4, 5, 6], [7], fun vs_ T_ => fr0 vs_ 0 = (Value.int .i64 (x2)), [], [], [], fun _ h_ => h_⟩, ⟨some 8, [0, 1, 2, 3, 4, 5, 6, 7], [8], fun vs_ T_ => fr0 vs_ 0 = (Value.int .i64 (x2)), [], [], [], fun _ h_ => h_⟩]) (tks := [⟨none, none, [], fun vs_ => Cells (ptrBlk (Value.pointer (some ⟨g5, 0, none⟩))) 87 #[(Value.bool (x1.power)), (Value.slice z14 m14 k14), (Value.slice z15 m15 k15), (Value.slice z16 m16 k16), (Value.slice z17 m17 k17), (Value.slice z18 m18 k18)]⟩]) (O := Cells g2 99 #[(Value.int .i64 (0)), (Value.int .i64 (0)), (Value.bool (false))] :: Fr) rfl (by kernel_rfl) I21 ⟨?_, ?_, ?_, ?_, ?_, ?_, ?_, ?_, ?_, trivial⟩ ?_
  ·
   intro vs12 f w18 S13 X11 le13 hA11 hK12 hI12
   have I22 : Inv w18 S13 (X11) := hI12
   refine opg_plain rfl rfl (op_fieldAddr (v := (Value.pointer (some ⟨g5, 0, none⟩))) rfl fa87_4 ((hK12 7 (keep_of rfl)).trans q13) rfl ?_)
   refine ⟨_, _, rfl, PH.Le.refl _, ?_, ?_⟩
   ·
    exact rfl
   ·
    exact I22
  ·
   intro vs13 f w19 S14 X12 le14 hA12 hK13 hI13
   have I23 : Inv w19 S14 (Cells (ptrBlk (Value.pointer (some ⟨g5, 0, none⟩))) 87 #[(Value.bool (x1.power)), (Value.slice z14 m14 k14), (Value.slice z15 m15 k15), (Value.slice z16 m16 k16), (Value.slice z17 m17 k17), (Value.slice z18 m18 k18)] :: X12) := hI13
   have q14 : f 17 = (Value.pointer (some ⟨g5, 4, none⟩)) := vt (hA12.at_ 0 rfl _ rfl) rfl
   refine opg_plain rfl rfl (op_load1 (c := (Value.slice z17 m17 k17)) rfl sh34 (I23.nth 0 rfl) q14 rfl ?_)
   refine ⟨_, _, rfl, PH.Le.refl _, ?_, ?_⟩
   ·
    exact rfl
   ·
    exact I23
  ·
   intro vs14 f w20 S15 X13 le15 hA13 hK14 hI14
   have I24 : Inv w20 S15 (X13) := hI14
   refine opg_plain rfl rfl (op_move (v := v0) rfl ((hK14 0 (keep_of rfl)).trans e18) ?_)
   refine ⟨_, _, rfl, PH.Le.refl _, ?_, ?_⟩
   ·
    exact rfl
   ·
    exact I24
  ·
   intro vs15 f w21 S16 X14 le16 hA14 hK15 hI15
   have I25 : Inv w21 S16 (X14) := hI15
   have q15 : f 19 = v0 := vt (hA14.at_ 0 rfl _ rfl) rfl
   refine opg_plain rfl rfl (op_nilCheck_s (v := v0) rfl q15 (h0_.mono ((le1.trans le12).trans le16)) ?_)
   refine ⟨_, _, rfl, PH.Le.refl _, ?_, ?_⟩
   ·
    exact rfl
   ·
    exact I25
  ·
   intro vs16 f w22 S17 X15 le17 hA15 hK16 hI16
   have I26 : Inv w22 S17 (X15) := hI16
   have q16 : f 20 = v0 := vt (hA15.at_ 1 rfl _ rfl) rfl
   refine opg_plain rfl rfl (op_fieldAddr_t (v := v0) rfl fa95_2 q16 ((h0_.mono ((le1.trans le12).trans le17)).at_ I26) ?_)
   refine ⟨_, _, rfl, PH.Le.refl _, ?_, ?_⟩
   ·
    exact rfl
   ·
    exact I26
  ·
   intro vs17 f w23 S18 X16 le18 hA16 hK17 hI17
   have I27 : Inv w23 S18 (X16) := hI17
   have q17 : f 21 = (fieldPtr v0 2) := vt (hA16.at_ 2 rfl _ rfl) rfl
   refine opg_plain rfl rfl (op_load_int (v := (fieldPtr v0 2)) (e := a0.door) rfl sh3 q17 (((h0_.mono ((le1.trans le12).trans le18)).at_ I27).fld Control_cutter.fld2) ?_)
   refine ⟨_, _, rfl, PH.Le.refl _, ?_, ?_⟩
   ·
    exact rfl
   ·
    exact I27
  ·
   intro vs18 f w24 S19 X17 le19 hA17 hK18 hI18
   have I28 : Inv w24 S19 (X17) := hI18
   have q18 : f 18 = (Value.slice z17 m17 k17) := vt (hA17.at_ 1 rfl _ rfl) rfl
   have q19 : f 22 = (Value.int .i64 (a0.door)) := vt (hA17.at_ 5 rfl _ rfl) rfl
   refine opg_plain rfl rfl (op_indexAddr_rv (v := (Value.slice z17 m17 k17)) (i := a0.door) (e := x2) rfl Try.underlying34 sh3 q18 (r18.mono le19) q19 hx2 ?_)
   refine ⟨_, _, rfl, PH.Le.refl _, ?_, ?_⟩
   ·
    exact rfl
   ·
    exact I28
  ·
   intro vs19 f w25 S20 X18 le20 hA18 hK19 hI19
   have I29 : Inv w25 S20 (X18) := hI19
   have q20 : f 23 = (elemPtr (Value.slice z17 m17 k17) (a0.door) (Enc.sz Int)) := vt (hA18.at_ 6 rfl _ rfl) rfl
   refine opg_plain rfl rfl (op_load_int (v := (elemPtr (Value.slice z17 m17 k17) (a0.door) (Enc.sz Int))) (e := x2) rfl sh3 q20 ((r18.mono le20).elem I29.in_ hx2) ?_)
   refine ⟨_, _, rfl, PH.Le.refl _, ?_, ?_⟩
   ·
    exact rfl
   ·
    exact I29
  ·
   intro vs20 f w26 S21 X19 le21 hA19 hK20 hI20
   have I30 : Inv w26 S21 (X19) := hI20
   have q21 : f 24 = (Value.int .i64 (x2)) := vt (hA19.at_ 7 rfl _ rfl) rfl
   refine opg_plain rfl rfl (op_assign (v := (Value.int .i64 (x2))) rfl q21 ?_)
   refine ⟨_, _, rfl, PH.Le.refl _, ?_, ?_⟩
   ·
    exact rfl
   ·
    exact I30
  ·
   intro vs21 f w27 S22 le22 hF2 hK21 hI21
   have e29 : f 0 = v0 := (hK21 0 (keep_all rfl)).trans e18
   have e30 : f 2 = (Value.bool (a2)) := (hK21 2 (keep_all rfl)).trans e19
   have e31 : f 4 = (Value.pointer (some ⟨g1, 0, none⟩)) := (hK21 4 (keep_all rfl)).trans e20
   have e32 : f 6 = (Value.pointer (some ⟨g2, 0, none⟩)) := (hK21 6 (keep_all rfl)).trans e21
   have e33 : f 7 = (Value.pointer (some ⟨g5, 0, none⟩)) := (hK21 7 (keep_all rfl)).trans q13
   have I31 : Inv w27 S22 (Cells (ptrBlk (Value.pointer (some ⟨g5, 0, none⟩))) 87 #[(Value.bool (x1.power)), (Value.slice z14 m14 k14), (Value.slice z15 m15 k15), (Value.slice z16 m16 k16), (Value.slice z17 m17 k17), (Value.slice z18 m18 k18)] :: Cells g2 99 #[(Value.int .i64 (0)), (Value.int .i64 (0)), (Value.bool (false))] :: Fr) := hI21
   have q22 : f 8 = (Value.int .i64 (x2)) := vt (hF2.at_ 8 rfl _ rfl) rfl
   obtain ⟨v1, h2, h⟩ := bnd h
   refine wp_cut (fun f w => Inv w S22 (Cells g2 99 #[(Value.int .i64 (0)), (Value.int .i64 (0)), (Value.bool (false))] :: Cells (ptrBlk (Value.pointer (some ⟨g5, 0, none⟩))) 87 #[(Value.bool (x1.power)), (Value.slice z14 m14 k14), (Value.slice z15 m15 k15), (Value.slice z16 m16 k16), (Value.slice z17 m17 k17), (Value.slice z18 m18 k18)] :: Fr) ∧ f 0 = v0 ∧ f 4 = (Value.pointer (some ⟨g1, 0, none⟩)) ∧ f 6 = (Value.pointer (some ⟨g2, 0, none⟩)) ∧ f 7 = (Value.pointer (some ⟨g5, 0, none⟩)) ∧ f 8 = (Value.int .i64 (v1))) ?_ ?_
   ·
    refine wp_seq' ?_
    refine wp_region' ?_
    refine wl_op rfl (op_move (v := (Value.bool (a2))) rfl e30 ?_)
    refine wl_nil ?_
    rcases ifs h2 with ⟨hc2, h2⟩ | ⟨hc2, h2⟩
    ·
     refine wp_cond_t (b := a2) rfl hc2 ?_
     refine wp_region' ?_
     refine wl_op rfl (op_assign (v := (Value.int .i64 (0))) rfl rfl ?_)
     refine wl_nil ?_
     obtain rfl := Option.some.inj h2
     exact ⟨(I31.pull 1), e29, e31, e32, e33, rfl⟩
    ·
     refine wp_cond_f (b := a2) rfl hc2 ?_
     refine wp_skip' ?_
     obtain rfl := Option.some.inj h2
     exact ⟨(I31.pull 1), e29, e31, e32, e33, q22⟩
   ·
    rintro f w ⟨I32, e34, e35, e36, e37, e38⟩
    refine wp_seq' ?_
    obtain ⟨x3, hx3, h⟩ := bnd h
    obtain ⟨x4, hx4, h⟩ := bnd h
    refine wp_draw (sps := [⟨some 26, [], [0], fun vs_ T_ => fr0 vs_ 0 = (fieldPtr (Value.pointer (some ⟨g1, 0, none⟩)) 0), [], [], [], fun _ h_ => h_⟩, ⟨some 27, [0], [1], fun vs_ T_ => fr0 vs_ 0 = (Value.int .i64 (a1.tick)), [], [], [], fun _ h_ => h_⟩, ⟨some 28, [0, 1], [2], fun vs_ T_ => fr0 vs_ 0 = (Value.int .i64 (w64 (a1.tick + 1))), [], [], [], fun _ h_ => h_⟩, ⟨some 29, [], [3], fun vs_ T_ => fr0 vs_ 0 = (fieldPtr (Value.pointer (some ⟨g1, 0, none⟩)) 1), [], [], [], fun _ h_ => h_⟩, ⟨some 30, [3], [4], fun vs_ T_ => fr0 vs_ 0 = (Value.agg #[(Value.int .i64 (a1.door.left)), (Value.bool (a1.door.shut))]), [], [], [], fun _ h_ => h_⟩, ⟨some 31, [], [5], fun vs_ T_ => fr0 vs_ 0 = v0, [], [], [], fun _ h_ => h_⟩, ⟨some 32, [5], [6], fun vs_ T_ => fr0 vs_ 0 = v0, [], [], [], fun _ h_ => h_⟩, ⟨some 33, [5, 6], [7], fun vs_ T_ => fr0 vs_ 0 = (fieldPtr v0 1), [], [], [], fun _ h_ => h_⟩, ⟨some 34, [5, 6, 7], [8], fun vs_ T_ => fr0 vs_ 0 = (Value.int .i64 (a0.wait)), [], [], [], fun _ h_ => h_⟩, ⟨some 35, [], [9], fun vs_ T_ => fr0 vs_ 0 = (Value.pointer (some ⟨g5, 0, none⟩)), [], [], [], fun _ h_ => h_⟩, ⟨some 36, [9], [10], fun vs_ T_ => fr0 vs_ 0 = (Value.bool (x1.power)), [0], [], [], fun _ h_ => h_⟩, ⟨some 37, [], [11], fun vs_ T_ => fr0 vs_ 0 = (Value.pointer (some ⟨g5, 5, none⟩)), [], [], [], fun _ h_ => h_⟩, ⟨some 38, [11], [12], fun vs_ T_ => fr0 vs_ 0 = (Value.slice z18 m18 k18), [0], [], [], fun _ h_ => h_⟩, ⟨some 39, [], [13], fun vs_ T_ => fr0 vs_ 0 = v0, [], [], [], fun _ h_ => h_⟩, ⟨some 40, [13], [14], fun vs_ T_ => fr0 vs_ 0 = v0, [], [], [], fun _ h_ => h_⟩, ⟨some 41, [13, 14], [15], fun vs_ T_ => fr0 vs_ 0 = (fieldPtr v0 2), [], [], [], fun _ h_ => h_⟩, ⟨some 42, [13, 14, 15], [16], fun vs_ T_ => fr0 vs_ 0 = (Value.int .i64 (a0.door)), [], [], [], fun _ h_ => h_⟩, ⟨some 43, [11, 12, 13, 14, 15, 16], [17], fun vs_ T_ => fr0 vs_ 0 = (elemPtr (Value.slice z18 m18 k18) (a0.door) (Enc.sz Bool)), [], [], [], fun _ h_ => h_⟩, ⟨some 44, [11, 12, 13, 14, 15, 16, 17], [18], fun vs_ T_ => fr0 vs_ 0 = (Value.bool (x3)), [], [], [], fun _ h_ => h_⟩, ⟨some 45, [], [19], fun vs_ T_ => fr0 vs_ 0 = (Value.int .i64 (v1)), [], [], [], fun _ h_ => h_⟩, ⟨some 46, [3, 4, 5, 6, 7, 8, 9, 10, 11, 12, 13, 14, 15, 16, 17, 18, 19], [20], fun vs_ T_ => fr0 vs_ 0 = (Value.agg #[(Value.int .i64 (x4.left)), (Value.bool (x4.shut))]), [], [], [], fun _ h_ => h_⟩, ⟨some 47, [0, 1, 2, 3, 4, 5, 6, 7, 8, 9, 10, 11, 12, 13, 14, 15, 16, 17, 18, 19, 20], [21], fun vs_ T_ => fr0 vs_ 0 = (Value.agg #[(Value.int .i64 (w64 (a1.tick + 1))), (Value.int .i64 (x4.left)), (Value.bool (x4.shut))]), [], [], [], fun _ h_ => h_⟩, ⟨none, [0, 1, 2, 3, 4, 5, 6, 7, 8, 9, 10, 11, 12, 13, 14, 15, 16, 17, 18, 19, 20, 21], [], fun vs_ T_ => True, [], [1], [2], fun _ h_ => h_⟩]) (tks := [⟨none, none, [], fun vs_ => Cells (ptrBlk (Value.pointer (some ⟨g5, 0, none⟩))) 87 #[(Value.bool (x1.power)), (Value.slice z14 m14 k14), (Value.slice z15 m15 k15), (Value.slice z16 m16 k16), (Value.slice z17 m17 k17), (Value.slice z18 m18 k18)]⟩, ⟨none, some 22, [], fun vs_ => Cells g2 99 #[(Value.int .i64 (0)), (Value.int .i64 (0)), (Value.bool (false))]⟩, ⟨some 22, none, [], fun vs_ => Cells g2 99 #[(Value.int .i64 (w64 (a1.tick + 1))), (Value.int .i64 (x4.left)), (Value.bool (x4.shut))]⟩]) (O := Fr) rfl (by kernel_rfl) (I32.pull 1) ⟨?_, ?_, ?_, ?_, ?_, ?_, ?_, ?_, ?_, ?_, ?_, ?_, ?_, ?_, ?_, ?_, ?_, ?_, ?_, ?_, ?_, ?_, ?_, trivial⟩ ?_
    ·
     intro vs22 f w30 S23 X20 le23 hA20 hK22 hI22
     have I35 : Inv w30 S23 (X20) := hI22
     refine opg_plain rfl rfl (op_fieldAddr_t (v := (Value.pointer (some ⟨g1, 0, none⟩))) rfl fa99_0 ((hK22 4 (keep_of rfl)).trans e35) ((p1.mono ((le12.trans le22).trans le23)).at_ I35) ?_)
     refine ⟨_, _, rfl, PH.Le.refl _, ?_, ?_⟩
     ·
      exact rfl
     ·
      exact I35
    ·
     intro vs23 f w31 S24 X21 le24 hA21 hK23 hI23
     have I36 : Inv w31 S24 (X21) := hI23
     have q23 : f 26 = (fieldPtr (Value.pointer (some ⟨g1, 0, none⟩)) 0) := vt (hA21.at_ 0 rfl _ rfl) rfl
     refine opg_plain rfl rfl (op_load_int (v := (fieldPtr (Value.pointer (some ⟨g1, 0, none⟩)) 0)) (e := a1.tick) rfl sh3 q23 (((p1.mono ((le12.trans le22).trans le24)).at_ I36).fld Control_place.fld0) ?_)
     refine ⟨_, _, rfl, PH.Le.refl _, ?_, ?_⟩
     ·
      exact rfl
     ·
      exact I36
    ·
     intro vs24 f w32 S25 X22 le25 hA22 hK24 hI24
     have I37 : Inv w32 S25 (X22) := hI24
     have q24 : f 27 = (Value.int .i64 (a1.tick)) := vt (hA22.at_ 1 rfl _ rfl) rfl
     refine opg_plain rfl rfl (op_add (a := a1.tick) (b := 1) rfl q24 rfl ?_)
     refine ⟨_, _, rfl, PH.Le.refl _, ?_, ?_⟩
     ·
      exact rfl
     ·
      exact I37
    ·
     intro vs25 f w33 S26 X23 le26 hA23 hK25 hI25
     have I38 : Inv w33 S26 (X23) := hI25
     refine opg_plain rfl rfl (op_fieldAddr_t (v := (Value.pointer (some ⟨g1, 0, none⟩))) rfl fa99_1 ((hK25 4 (keep_of rfl)).trans e35) ((p1.mono ((le12.trans le22).trans le26)).at_ I38) ?_)
     refine ⟨_, _, rfl, PH.Le.refl _, ?_, ?_⟩
     ·
      exact rfl
     ·
      exact I38
    ·
     intro vs26 f w34 S27 X24 le27 hA24 hK26 hI26
     have I39 : Inv w34 S27 (X24) := hI26
     have q25 : f 29 = (fieldPtr (Value.pointer (some ⟨g1, 0, none⟩)) 1) := vt (hA24.at_ 0 rfl _ rfl) rfl
     refine opg_plain rfl rfl (op_load (v := (fieldPtr (Value.pointer (some ⟨g1, 0, none⟩)) 1)) (e := a1.door) rfl sh97 q25 (((p1.mono ((le12.trans le22).trans le27)).at_ I39).fld Control_place.fld1) (fun u10 hu10 => ?_))
     have e39 := Control_door.inv hu10
     subst e39
     refine ⟨_, _, rfl, PH.Le.refl _, ?_, ?_⟩
     ·
      exact rfl
     ·
      exact I39
    ·
     intro vs27 f w35 S28 X25 le28 hA25 hK27 hI27
     have I40 : Inv w35 S28 (X25) := hI27
     refine opg_plain rfl rfl (op_move (v := v0) rfl ((hK27 0 (keep_of rfl)).trans e34) ?_)
     refine ⟨_, _, rfl, PH.Le.refl _, ?_, ?_⟩
     ·
      exact rfl
     ·
      exact I40
    ·
     intro vs28 f w36 S29 X26 le29 hA26 hK28 hI28
     have I41 : Inv w36 S29 (X26) := hI28
     have q26 : f 31 = v0 := vt (hA26.at_ 0 rfl _ rfl) rfl
     refine opg_plain rfl rfl (op_nilCheck_s (v := v0) rfl q26 (h0_.mono (((le1.trans le12).trans le22).trans le29)) ?_)
     refine ⟨_, _, rfl, PH.Le.refl _, ?_, ?_⟩
     ·
      exact rfl
     ·
      exact I41
    ·
     intro vs29 f w37 S30 X27 le30 hA27 hK29 hI29
     have I42 : Inv w37 S30 (X27) := hI29
     have q27 : f 32 = v0 := vt (hA27.at_ 1 rfl _ rfl) rfl
     refine opg_plain rfl rfl (op_fieldAddr_t (v := v0) rfl fa95_1 q27 ((h0_.mono (((le1.trans le12).trans le22).trans le30)).at_ I42) ?_)
     refine ⟨_, _, rfl, PH.Le.refl _, ?_, ?_⟩
     ·
      exact rfl
     ·
      exact I42
    ·
     intro vs30 f w38 S31 X28 le31 hA28 hK30 hI30
     have I43 : Inv w38 S31 (X28) := hI30
     have q28 : f 33 = (fieldPtr v0 1) := vt (hA28.at_ 2 rfl _ rfl) rfl
     refine opg_plain rfl rfl (op_load_int (v := (fieldPtr v0 1)) (e := a0.wait) rfl sh3 q28 (((h0_.mono (((le1.trans le12).trans le22).trans le31)).at_ I43).fld Control_cutter.fld1) ?_)
     refine ⟨_, _, rfl, PH.Le.refl _, ?_, ?_⟩
     ·
      exact rfl
     ·
      exact I43
    ·
     intro vs31 f w39 S32 X29 le32 hA29 hK31 hI31
     have I44 : Inv w39 S32 (X29) := hI31
     refine opg_plain rfl rfl (op_fieldAddr (v := (Value.pointer (some ⟨g5, 0, none⟩))) rfl fa87_0 ((hK31 7 (keep_of rfl)).trans e37) rfl ?_)
     refine ⟨_, _, rfl, PH.Le.refl _, ?_, ?_⟩
     ·
      exact rfl
     ·
      exact I44
    ·
     intro vs32 f w40 S33 X30 le33 hA30 hK32 hI32
     have I45 : Inv w40 S33 (Cells (ptrBlk (Value.pointer (some ⟨g5, 0, none⟩))) 87 #[(Value.bool (x1.power)), (Value.slice z14 m14 k14), (Value.slice z15 m15 k15), (Value.slice z16 m16 k16), (Value.slice z17 m17 k17), (Value.slice z18 m18 k18)] :: X30) := hI32
     have q29 : f 35 = (Value.pointer (some ⟨g5, 0, none⟩)) := vt (hA30.at_ 0 rfl _ rfl) rfl
     refine opg_plain rfl rfl (op_load1 (c := (Value.bool (x1.power))) rfl sh4 (I45.nth 0 rfl) q29 rfl ?_)
     refine ⟨_, _, rfl, PH.Le.refl _, ?_, ?_⟩
     ·
      exact rfl
     ·
      exact I45
    ·
     intro vs33 f w41 S34 X31 le34 hA31 hK33 hI33
     have I46 : Inv w41 S34 (X31) := hI33
     refine opg_plain rfl rfl (op_fieldAddr (v := (Value.pointer (some ⟨g5, 0, none⟩))) rfl fa87_5 ((hK33 7 (keep_of rfl)).trans e37) rfl ?_)
     refine ⟨_, _, rfl, PH.Le.refl _, ?_, ?_⟩
     ·
      exact rfl
     ·
      exact I46
    ·
     intro vs34 f w42 S35 X32 le35 hA32 hK34 hI34
     have I47 : Inv w42 S35 (Cells (ptrBlk (Value.pointer (some ⟨g5, 0, none⟩))) 87 #[(Value.bool (x1.power)), (Value.slice z14 m14 k14), (Value.slice z15 m15 k15), (Value.slice z16 m16 k16), (Value.slice z17 m17 k17), (Value.slice z18 m18 k18)] :: X32) := hI34
     have q30 : f 37 = (Value.pointer (some ⟨g5, 5, none⟩)) := vt (hA32.at_ 0 rfl _ rfl) rfl
     refine opg_plain rfl rfl (op_load1 (c := (Value.slice z18 m18 k18)) rfl sh83 (I47.nth 0 rfl) q30 rfl ?_)
     refine ⟨_, _, rfl, PH.Le.refl _, ?_, ?_⟩
     ·
      exact rfl
     ·
      exact I47
    ·
     intro vs35 f w43 S36 X33 le36 hA33 hK35 hI35
     have I48 : Inv w43 S36 (X33) := hI35
     refine opg_plain rfl rfl (op_move (v := v0) rfl ((hK35 0 (keep_of rfl)).trans e34) ?_)
     refine ⟨_, _, rfl, PH.Le.refl _, ?_, ?_⟩
     ·
      exact rfl
     ·
      exact I48
    ·
     intro vs36 f w44 S37 X34 le37 hA34 hK36 hI36
     have I49 : Inv w44 S37 (X34) := hI36
     have q31 : f 39 = v0 := vt (hA34.at_ 0 rfl _ rfl) rfl
     refine opg_plain rfl rfl (op_nilCheck_s (v := v0) rfl q31 (h0_.mono (((le1.trans le12).trans le22).trans le37)) ?_)
     refine ⟨_, _, rfl, PH.Le.refl _, ?_, ?_⟩
     ·
      exact rfl
     ·
      exact I49
    ·
     intro vs37 f w45 S38 X35 le38 hA35 hK37 hI37
     have I50 : Inv w45 S38 (X35) := hI37
     have q32 : f 40 = v0 := vt (hA35.at_ 1 rfl _ rfl) rfl
     refine opg_plain rfl rfl (op_fieldAddr_t (v := v0) rfl fa95_2 q32 ((h0_.mono (((le1.trans le12).trans le22).trans le38)).at_ I50) ?_)
     refine ⟨_, _, rfl, PH.Le.refl _, ?_, ?_⟩
     ·
      exact rfl
     ·
      exact I50
    ·
     intro vs38 f w46 S39 X36 le39 hA36 hK38 hI38
     have I51 : Inv w46 S39 (X36) := hI38
     have q33 : f 41 = (fieldPtr v0 2) := vt (hA36.at_ 2 rfl _ rfl) rfl
     refine opg_plain rfl rfl (op_load_int (v := (fieldPtr v0 2)) (e := a0.door) rfl sh3 q33 (((h0_.mono (((le1.trans le12).trans le22).trans le39)).at_ I51).fld Control_cutter.fld2) ?_)
     refine ⟨_, _, rfl, PH.Le.refl _, ?_, ?_⟩
     ·
      exact rfl
     ·
      exact I51
    ·
     intro vs39 f w47 S40 X37 le40 hA37 hK39 hI39
     have I52 : Inv w47 S40 (X37) := hI39
     have q34 : f 38 = (Value.slice z18 m18 k18) := vt (hA37.at_ 1 rfl _ rfl) rfl
     have q35 : f 42 = (Value.int .i64 (a0.door)) := vt (hA37.at_ 5 rfl _ rfl) rfl
     refine opg_plain rfl rfl (op_indexAddr_rv (v := (Value.slice z18 m18 k18)) (i := a0.door) (e := x3) rfl Try.underlying83 sh4 q34 (r19.mono (le22.trans le40)) q35 hx3 ?_)
     refine ⟨_, _, rfl, PH.Le.refl _, ?_, ?_⟩
     ·
      exact rfl
     ·
      exact I52
    ·
     intro vs40 f w48 S41 X38 le41 hA38 hK40 hI40
     have I53 : Inv w48 S41 (X38) := hI40
     have q36 : f 43 = (elemPtr (Value.slice z18 m18 k18) (a0.door) (Enc.sz Bool)) := vt (hA38.at_ 6 rfl _ rfl) rfl
     refine opg_plain rfl rfl (op_load_bool (v := (elemPtr (Value.slice z18 m18 k18) (a0.door) (Enc.sz Bool))) (e := x3) rfl sh4 q36 ((r19.mono (le22.trans le41)).elem I53.in_ hx3) ?_)
     refine ⟨_, _, rfl, PH.Le.refl _, ?_, ?_⟩
     ·
      exact rfl
     ·
      exact I53
    ·
     intro vs41 f w49 S42 X39 le42 hA39 hK41 hI41
     have I54 : Inv w49 S42 (X39) := hI41
     refine opg_plain rfl rfl (op_move (v := (Value.int .i64 (v1))) rfl ((hK41 8 (keep_of rfl)).trans e38) ?_)
     refine ⟨_, _, rfl, PH.Le.refl _, ?_, ?_⟩
     ·
      exact rfl
     ·
      exact I54
    ·
     intro vs42 f w50 S43 X40 le43 hA40 hK42 hI42
     have I55 : Inv w50 S43 (X40) := hI42
     have q37 : f 30 = (Value.agg #[(Value.int .i64 (a1.door.left)), (Value.bool (a1.door.shut))]) := vt (hA40.at_ 1 rfl _ rfl) rfl
     have q38 : f 34 = (Value.int .i64 (a0.wait)) := vt (hA40.at_ 5 rfl _ rfl) rfl
     have q39 : f 36 = (Value.bool (x1.power)) := vt (hA40.at_ 7 rfl _ rfl) rfl
     have q40 : f 44 = (Value.bool (x3)) := vt (hA40.at_ 15 rfl _ rfl) rfl
     have q41 : f 45 = (Value.int .i64 (v1)) := vt (hA40.at_ 16 rfl _ rfl) rfl
     refine opg_plain rfl rfl (op_call_v (vs := [(Value.agg #[(Value.int .i64 (a1.door.left)), (Value.bool (a1.door.shut))]), (Value.int .i64 (a0.wait)), (Value.bool (x1.power)), (Value.bool (x3)), (Value.int .i64 (v1))]) (r := (Value.agg #[(Value.int .i64 (x4.left)), (Value.bool (x4.shut))])) rfl ca67 rfl (args5 q37 q38 q39 q40 q41) I55 (fun Fr_ hF_ => F67_ok hF_ (Control_door.rv (s := a1.door)) hx4) (fun w51 I56 => ?_))
     refine ⟨_, _, rfl, PH.Le.refl _, ?_, ?_⟩
     ·
      exact rfl
     ·
      exact I56
    ·
     intro vs43 f w52 S44 X41 le44 hA41 hK43 hI43
     have I57 : Inv w52 S44 (X41) := hI43
     have q42 : f 28 = (Value.int .i64 (w64 (a1.tick + 1))) := vt (hA41.at_ 2 rfl _ rfl) rfl
     have q43 : f 46 = (Value.agg #[(Value.int .i64 (x4.left)), (Value.bool (x4.shut))]) := vt (hA41.at_ 20 rfl _ rfl) rfl
     refine opg_plain rfl rfl (op_build (qs := [(0, #[(Value.int .i64 (w64 (a1.tick + 1)))]), (1, #[(Value.int .i64 (x4.left)), (Value.bool (x4.shut))])]) (c := #[(Value.int .i64 (w64 (a1.tick + 1))), (Value.int .i64 (x4.left)), (Value.bool (x4.shut))]) rfl st99 ⟨rfl, (cells_of q42 rfl), ⟨rfl, (cells_of q43 rfl), trivial⟩⟩ rfl ?_)
     refine ⟨_, _, rfl, PH.Le.refl _, ?_, ?_⟩
     ·
      exact rfl
     ·
      exact I57
    ·
     intro vs44 f w53 S45 X42 le45 hA42 hK44 hI44
     have I58 : Inv w53 S45 (Cells g2 99 #[(Value.int .i64 (0)), (Value.int .i64 (0)), (Value.bool (false))] :: X42) := hI44
     have q44 : f 47 = (Value.agg #[(Value.int .i64 (w64 (a1.tick + 1))), (Value.int .i64 (x4.left)), (Value.bool (x4.shut))]) := vt (hA42.at_ 21 rfl _ rfl) rfl
     refine opg_plain rfl rfl (op_store (v := (Value.agg #[(Value.int .i64 (w64 (a1.tick + 1))), (Value.int .i64 (x4.left)), (Value.bool (x4.shut))])) (cs := #[(Value.int .i64 (0)), (Value.int .i64 (0)), (Value.bool (false))]) sh99 I58 ((hK44 6 (keep_of rfl)).trans e36) q44 rfl (Nat.le_of_ble_eq_true rfl) rfl (fun w54 (I59 : Inv w54 S45 (Cells g2 99 #[(Value.int .i64 (w64 (a1.tick + 1))), (Value.int .i64 (x4.left)), (Value.bool (x4.shut))] :: X42)) => ?_))
     refine ⟨undef, _, rfl, PH.Le.refl _, ?_, ?_⟩
     ·
      exact trivial
     ·
      exact I59
    ·
     intro vs45 f w55 S46 le46 hF3 hK45 hI45
     have e40 : f 6 = (Value.pointer (some ⟨g2, 0, none⟩)) := (hK45 6 (keep_all rfl)).trans e36
     have I60 : Inv w55 S46 (Cells (ptrBlk (Value.pointer (some ⟨g5, 0, none⟩))) 87 #[(Value.bool (x1.power)), (Value.slice z14 m14 k14), (Value.slice z15 m15 k15), (Value.slice z16 m16 k16), (Value.slice z17 m17 k17), (Value.slice z18 m18 k18)] :: Cells g2 99 #[(Value.int .i64 (w64 (a1.tick + 1))), (Value.int .i64 (x4.left)), (Value.bool (x4.shut))] :: Fr) := hI45
     refine wp_ret' ?_
     obtain rfl := Option.some.inj h
     exact ⟨(Value.agg #[(Value.int .i64 (w64 (a1.tick + 1))), (Value.int .i64 (x4.left)), (Value.bool (x4.shut))]), (resC (cs := #[(Value.int .i64 (w64 (a1.tick + 1))), (Value.int .i64 (x4.left)), (Value.bool (x4.shut))]) rfl e40 sh99 (I60.pull 1)), _, [], (((le1.trans le12).trans le22).trans le46), ((I60).drop).drop, rfl, rfl⟩

set_option maxHeartbeats 4000000 in
set_option maxRecDepth 100000 in
theorem F59_ok (n_ : Nat) : ∀ {w : World} {S : PH} {Fr : List HP} {a0 : Control_cutter} {v0 : Value} {a1 : Control_place} {v1 : Value} {m0 : List (Control_place × Int)} {r : Int × List (Control_place × Int)} (hI : Inv w S (MapB (K := Control_place) (V := Int) a0.known.g (m0) :: Fr)) (h0_ : PtS S v0 a0) (h1_ : RV S v1 a1) (h : F59 n_ (⟨a0.ticks, a0.wait, a0.door, ⟨0⟩⟩ : Control_cutter) a1 m0 = some r),
    Calls Try.prog 59 [v0, v1].toArray w (Done S Fr (fun T_ v_ O_ => v_ = (Value.int .i64 (r.1)) ∧ O_ = [MapB (K := Control_place) (V := Int) a0.known.g (r.2)])) := by
  induction n_ with
  | zero => intros; rename_i h; cases h
  | succ n_ ih =>
   intro w S Fr a0 v0 a1 v1 m0 r hI h0_ h1_ h
   rw [F59] at h
   have e1 := Control_place.inv h1_
   subst e1
   refine calls_enter (n := 49) (vs := [v0, (Value.agg #[(Value.int .i64 (a1.tick)), (Value.int .i64 (a1.door.left)), (Value.bool (a1.door.shut))])]) Try.func59 rfl rfl rfl ?_
   refine wp_seq' ?_
   refine wp_region' ?_
   refine wl_op rfl (op_box (v := (Value.agg #[(Value.int .i64 (a1.tick)), (Value.int .i64 (a1.door.left)), (Value.bool (a1.door.shut))])) rfl hI rfl (fun g1 w1 I1 => ?_))
   obtain ⟨S1, le1, I2, p1⟩ := Inv.boxFreeze (x := a1) I1 (Control_place.rv (s := a1))
   refine wl_op rfl (op_assign (v := (Value.int .i64 (0))) rfl rfl ?_)
   refine wl_nil ?_
   refine wp_seq' ?_
   refine wp_seq' ?_
   refine wp_draw (sps := [⟨some 8, [], [0], fun vs_ T_ => fr0 vs_ 0 = (fieldPtr (Value.pointer (some ⟨g1, 0, none⟩)) 0), [], [], [], fun _ h_ => h_⟩, ⟨some 9, [0], [1], fun vs_ T_ => fr0 vs_ 0 = (Value.int .i64 (a1.tick)), [], [], [], fun _ h_ => h_⟩, ⟨some 10, [], [2], fun vs_ T_ => fr0 vs_ 0 = v0, [], [], [], fun _ h_ => h_⟩, ⟨some 11, [2], [3], fun vs_ T_ => fr0 vs_ 0 = v0, [], [], [], fun _ h_ => h_⟩, ⟨some 12, [2, 3], [4], fun vs_ T_ => fr0 vs_ 0 = (fieldPtr v0 0), [0], [], [], fun _ h_ => h_⟩, ⟨some 13, [2, 3, 4], [5], fun vs_ T_ => RV T_ (fr0 vs_ 0) a0.ticks, [], [], [], fun hle_ h_ => h_.mono hle_⟩, ⟨some 14, [2, 3, 4, 5], [6], fun vs_ T_ => fr0 vs_ 0 = (Value.int .i64 ((a0.ticks.length : Int))), [], [], [], fun _ h_ => h_⟩, ⟨some 15, [0, 1, 2, 3, 4, 5, 6], [7], fun vs_ T_ => fr0 vs_ 0 = (Value.bool (a1.tick == (a0.ticks.length : Int))), [], [], [], fun _ h_ => h_⟩]) (tks := [⟨none, none, [], fun vs_ => MapB (K := Control_place) (V := Int) a0.known.g (m0)⟩]) (O := Fr) rfl (by kernel_rfl) I2 ⟨?_, ?_, ?_, ?_, ?_, ?_, ?_, ?_, trivial⟩ ?_
   ·
    intro vs1 f w2 S2 X1 le2 hA1 hK1 hI1
    have I3 : Inv w2 S2 (X1) := hI1
    refine opg_plain rfl rfl (op_fieldAddr_t (v := (Value.pointer (some ⟨g1, 0, none⟩))) rfl fa99_0 (hK1 3 (keep_of rfl)) ((p1.mono le2).at_ I3) ?_)
    refine ⟨_, _, rfl, PH.Le.refl _, ?_, ?_⟩
    ·
     exact rfl
    ·
     exact I3
   ·
    intro vs2 f w3 S3 X2 le3 hA2 hK2 hI2
    have I4 : Inv w3 S3 (X2) := hI2
    have q1 : f 8 = (fieldPtr (Value.pointer (some ⟨g1, 0, none⟩)) 0) := vt (hA2.at_ 0 rfl _ rfl) rfl
    refine opg_plain rfl rfl (op_load_int (v := (fieldPtr (Value.pointer (some ⟨g1, 0, none⟩)) 0)) (e := a1.tick) rfl sh3 q1 (((p1.mono le3).at_ I4).fld Control_place.fld0) ?_)
    refine ⟨_, _, rfl, PH.Le.refl _, ?_, ?_⟩
    ·
     exact rfl
    ·
     exact I4
   ·
    intro vs3 f w4 S4 X3 le4 hA3 hK3 hI3
    have I5 : Inv w4 S4 (X3) := hI3
    refine opg_plain rfl rfl (op_move (v := v0) rfl (hK3 0 (keep_of rfl)) ?_)
    refine ⟨_, _, rfl, PH.Le.refl _, ?_, ?_⟩
    ·
     exact rfl
    ·
     exact I5
   ·
    intro vs4 f w5 S5 X4 le5 hA4 hK4 hI4
    have I6 : Inv w5 S5 (X4) := hI4
    have q2 : f 10 = v0 := vt (hA4.at_ 0 rfl _ rfl) rfl
    refine opg_plain rfl rfl (op_nilCheck_s (v := v0) rfl q2 (h0_.mono (le1.trans le5)) ?_)
    refine ⟨_, _, rfl, PH.Le.refl _, ?_, ?_⟩
    ·
     exact rfl
    ·
     exact I6
   ·
    intro vs5 f w6 S6 X5 le6 hA5 hK5 hI5
    have I7 : Inv w6 S6 (MapB (K := Control_place) (V := Int) a0.known.g (m0) :: X5) := hI5
    have q3 : f 11 = v0 := vt (hA5.at_ 1 rfl _ rfl) rfl
    refine opg_plain rfl rfl (op_fieldAddr_t (v := v0) rfl fa95_0 q3 ((h0_.mono (le1.trans le6)).at_ I7) ?_)
    refine ⟨_, _, rfl, PH.Le.refl _, ?_, ?_⟩
    ·
     exact rfl
    ·
     exact I7
   ·
    intro vs6 f w7 S7 X6 le7 hA6 hK6 hI6
    have I8 : Inv w7 S7 (X6) := hI6
    have q4 : f 12 = (fieldPtr v0 0) := vt (hA6.at_ 2 rfl _ rfl) rfl
    refine opg_plain rfl rfl (op_load (v := (fieldPtr v0 0)) (e := a0.ticks) rfl sh72 q4 (((h0_.mono (le1.trans le7)).at_ I8).fld Control_cutter.fld0) (fun u2 hu2 => ?_))
    obtain ⟨z1, m1, k1, e2⟩ := rv_form hu2
    subst e2
    refine ⟨_, _, rfl, PH.Le.refl _, ?_, ?_⟩
    ·
     exact hu2
    ·
     exact I8
   ·
    intro vs7 f w8 S8 X7 le8 hA7 hK7 hI7
    have I9 : Inv w8 S8 (X7) := hI7
    have q5 : f 13 = vs7 5 := (hA7.at_ 3 rfl _ rfl).1 _ rfl
    have r1 : RV S8 (vs7 5) a0.ticks := (hA7.at_ 3 rfl _ rfl).2
    obtain ⟨u3, hu3⟩ : ∃ u, vs7 5 = u := ⟨_, rfl⟩
    rw [hu3] at q5 r1
    obtain ⟨z2, m2, k2, e3⟩ := rv_form r1
    subst e3
    refine opg_plain rfl rfl (op_len_rv rfl Try.underlying72 q5 r1 ?_)
    refine ⟨_, _, rfl, PH.Le.refl _, ?_, ?_⟩
    ·
     exact rfl
    ·
     exact I9
   ·
    intro vs8 f w9 S9 X8 le9 hA8 hK8 hI8
    have I10 : Inv w9 S9 (X8) := hI8
    have q6 : f 9 = (Value.int .i64 (a1.tick)) := vt (hA8.at_ 1 rfl _ rfl) rfl
    have q7 : f 14 = (Value.int .i64 ((a0.ticks.length : Int))) := vt (hA8.at_ 6 rfl _ rfl) rfl
    refine opg_plain rfl rfl (op_eql (a := a1.tick) (b := (a0.ticks.length : Int)) rfl q6 q7 ?_)
    refine ⟨_, _, rfl, PH.Le.refl _, ?_, ?_⟩
    ·
     exact rfl
    ·
     exact I10
   ·
    intro vs9 f w10 S10 le10 hF1 hK9 hI9
    have e4 : f 0 = v0 := (hK9 0 (keep_all rfl)).trans rfl
    have e5 : f 3 = (Value.pointer (some ⟨g1, 0, none⟩)) := (hK9 3 (keep_all rfl)).trans rfl
    have I11 : Inv w10 S10 (MapB (K := Control_place) (V := Int) a0.known.g (m0) :: Fr) := hI9
    have q8 : f 15 = (Value.bool (a1.tick == (a0.ticks.length : Int))) := vt (hF1.at_ 7 rfl _ rfl) rfl
    rcases ifs h with ⟨hc1, h⟩ | ⟨hc1, h⟩
    ·
     refine wp_cond_t (b := a1.tick == (a0.ticks.length : Int)) q8 hc1 ?_
     refine wp_seq' ?_
     refine wp_seq' ?_
     refine wp_region' ?_
     refine wl_op rfl (op_fieldAddr_t (v := (Value.pointer (some ⟨g1, 0, none⟩))) rfl fa99_1 e5 ((p1.mono le10).at_ I11) ?_)
     refine wl_op rfl (op_fieldAddr_t (v := (fieldPtr (Value.pointer (some ⟨g1, 0, none⟩)) 1)) rfl fa97_1 rfl (((p1.mono le10).at_ I11).fld Control_place.fld1) ?_)
     refine wl_op rfl (op_load_bool (v := (fieldPtr (fieldPtr (Value.pointer (some ⟨g1, 0, none⟩)) 1) 1)) (e := a1.door.shut) rfl sh4 rfl ((((p1.mono le10).at_ I11).fld Control_place.fld1).fld Control_door.fld1) ?_)
     refine wl_nil ?_
     rcases ifs h with ⟨hc2, h⟩ | ⟨hc2, h⟩
     ·
      refine wp_cond_t (b := a1.door.shut) rfl hc2 ?_
      refine wp_seq' ?_
      refine wp_region' ?_
      refine wl_op rfl (op_assign (v := (Value.int .i64 (1099511627776))) rfl rfl ?_)
      refine wl_nil ?_
      refine wp_ret' ?_
      obtain rfl := Option.some.inj h
      exact ⟨(Value.int .i64 (1099511627776)), (res1 rfl rfl), _, [MapB (K := Control_place) (V := Int) a0.known.g (m0)], (le1.trans le10), I11, rfl, rfl⟩
     ·
      refine wp_cond_f (b := a1.door.shut) rfl hc2 ?_
      refine wp_skip' ?_
      refine wp_seq' ?_
      refine wp_region' ?_
      refine wl_op rfl (op_assign (v := (Value.int .i64 (0))) rfl rfl ?_)
      refine wl_nil ?_
      refine wp_ret' ?_
      obtain rfl := Option.some.inj h
      exact ⟨(Value.int .i64 (0)), (res1 rfl rfl), _, [MapB (K := Control_place) (V := Int) a0.known.g (m0)], (le1.trans le10), I11, rfl, rfl⟩
    ·
     refine wp_cond_f (b := a1.tick == (a0.ticks.length : Int)) q8 hc1 ?_
     refine wp_skip' ?_
     refine wp_seq' ?_
     refine wp_seq' ?_
     refine wp_draw (sps := [⟨some 20, [], [0], fun vs_ T_ => fr0 vs_ 0 = v0, [], [], [], fun _ h_ => h_⟩, ⟨some 21, [0], [1], fun vs_ T_ => fr0 vs_ 0 = v0, [], [], [], fun _ h_ => h_⟩, ⟨some 22, [0, 1], [2], fun vs_ T_ => fr0 vs_ 0 = (fieldPtr v0 3), [0], [], [], fun _ h_ => h_⟩, ⟨some 23, [0, 1, 2], [3], fun vs_ T_ => fr0 vs_ 0 = (Value.map (some a0.known.g)), [], [], [], fun _ h_ => h_⟩, ⟨some 24, [], [4], fun vs_ T_ => fr0 vs_ 0 = (Value.agg #[(Value.int .i64 (a1.tick)), (Value.int .i64 (a1.door.left)), (Value.bool (a1.door.shut))]), [], [], [], fun _ h_ => h_⟩, ⟨some 25, [0, 1, 2, 3, 4], [5], fun vs_ T_ => fr0 vs_ 0 = (Value.tuple #[(Value.int .i64 ((mlook 0 m0 a1))), (Value.bool (mhas m0 a1))]), [0], [], [], fun _ h_ => h_⟩, ⟨some 19, [0, 1, 2, 3, 4, 5], [6], fun vs_ T_ => fr0 vs_ 0 = (Value.tuple #[(Value.int .i64 ((mlook 0 m0 a1))), (Value.bool (mhas m0 a1))]), [], [], [], fun _ h_ => h_⟩, ⟨some 26, [0, 1, 2, 3, 4, 5, 6], [7], fun vs_ T_ => fr0 vs_ 0 = (Value.int .i64 ((mlook 0 m0 a1))), [], [], [], fun _ h_ => h_⟩, ⟨some 27, [0, 1, 2, 3, 4, 5, 6], [8], fun vs_ T_ => fr0 vs_ 0 = (Value.bool (mhas m0 a1)), [], [], [], fun _ h_ => h_⟩, ⟨some 5, [0, 1, 2, 3, 4, 5, 6, 7], [9], fun vs_ T_ => fr0 vs_ 0 = (Value.int .i64 ((mlook 0 m0 a1))), [], [], [], fun _ h_ => h_⟩, ⟨some 6, [0, 1, 2, 3, 4, 5, 6, 7, 8, 9], [10], fun vs_ T_ => fr0 vs_ 0 = (Value.bool (mhas m0 a1)), [], [], [], fun _ h_ => h_⟩]) (tks := [⟨none, none, [], fun vs_ => MapB (K := Control_place) (V := Int) a0.known.g (m0)⟩]) (O := Fr) rfl (by kernel_rfl) I11 ⟨?_, ?_, ?_, ?_, ?_, ?_, ?_, ?_, ?_, ?_, ?_, trivial⟩ ?_
     ·
      intro vs10 f w11 S11 X9 le11 hA9 hK10 hI10
      have I12 : Inv w11 S11 (X9) := hI10
      refine opg_plain rfl rfl (op_move (v := v0) rfl ((hK10 0 (keep_of rfl)).trans e4) ?_)
      refine ⟨_, _, rfl, PH.Le.refl _, ?_, ?_⟩
      ·
       exact rfl
      ·
       exact I12
     ·
      intro vs11 f w12 S12 X10 le12 hA10 hK11 hI11
      have I13 : Inv w12 S12 (X10) := hI11
      have q10 : f 20 = v0 := vt (hA10.at_ 0 rfl _ rfl) rfl
      refine opg_plain rfl rfl (op_nilCheck_s (v := v0) rfl q10 (h0_.mono ((le1.trans le10).trans le12)) ?_)
      refine ⟨_, _, rfl, PH.Le.refl _, ?_, ?_⟩
      ·
       exact rfl
      ·
       exact I13
     ·
      intro vs12 f w13 S13 X11 le13 hA11 hK12 hI12
      have I14 : Inv w13 S13 (MapB (K := Control_place) (V := Int) a0.known.g (m0) :: X11) := hI12
      have q11 : f 21 = v0 := vt (hA11.at_ 1 rfl _ rfl) rfl
      refine opg_plain rfl rfl (op_fieldAddr_t (v := v0) rfl fa95_3 q11 ((h0_.mono ((le1.trans le10).trans le13)).at_ I14) ?_)
      refine ⟨_, _, rfl, PH.Le.refl _, ?_, ?_⟩
      ·
       exact rfl
      ·
       exact I14
     ·
      intro vs13 f w14 S14 X12 le14 hA12 hK13 hI13
      have I15 : Inv w14 S14 (X12) := hI13
      have q12 : f 22 = (fieldPtr v0 3) := vt (hA12.at_ 2 rfl _ rfl) rfl
      refine opg_plain rfl rfl (op_load_map (v := (fieldPtr v0 3)) (e := a0.known) rfl sh93 q12 (((h0_.mono ((le1.trans le10).trans le14)).at_ I15).fld Control_cutter.fld3) ?_)
      refine ⟨_, _, rfl, PH.Le.refl _, ?_, ?_⟩
      ·
       exact rfl
      ·
       exact I15
     ·
      intro vs14 f w15 S15 X13 le15 hA13 hK14 hI14
      have I16 : Inv w15 S15 (X13) := hI14
      refine opg_plain rfl rfl (op_load (v := (Value.pointer (some ⟨g1, 0, none⟩))) (e := a1) rfl sh99 ((hK14 3 (keep_of rfl)).trans e5) ((p1.mono (le10.trans le15)).at_ I16) (fun u5 hu5 => ?_))
      have e6 := Control_place.inv hu5
      subst e6
      refine ⟨_, _, rfl, PH.Le.refl _, ?_, ?_⟩
      ·
       exact rfl
      ·
       exact I16
     ·
      intro vs15 f w16 S16 X14 le16 hA14 hK15 hI15
      have I17 : Inv w16 S16 (MapB (K := Control_place) (V := Int) a0.known.g (m0) :: X14) := hI15
      have q13 : f 23 = (Value.map (some a0.known.g)) := vt (hA14.at_ 3 rfl _ rfl) rfl
      have q14 : f 24 = (Value.agg #[(Value.int .i64 (a1.tick)), (Value.int .i64 (a1.door.left)), (Value.bool (a1.door.shut))]) := vt (hA14.at_ 4 rfl _ rfl) rfl
      refine opg_plain rfl rfl (op_lookup_ok (k := a1) (zd := 0) rfl Try.underlying93 kt99 zo3 (fun _ => (rv_int' _)) q13 q14 I17 (Control_place.rv (s := a1)) (fun q15 hq2 => ?_))
      obtain rfl := rv_int hq2
      refine ⟨_, _, rfl, PH.Le.refl _, ?_, ?_⟩
      ·
       exact rfl
      ·
       exact I17
     ·
      intro vs16 f w17 S17 X15 le17 hA15 hK16 hI16
      have I18 : Inv w17 S17 (X15) := hI16
      have q16 : f 25 = (Value.tuple #[(Value.int .i64 ((mlook 0 m0 a1))), (Value.bool (mhas m0 a1))]) := vt (hA15.at_ 5 rfl _ rfl) rfl
      refine opg_plain rfl rfl (op_move (v := (Value.tuple #[(Value.int .i64 ((mlook 0 m0 a1))), (Value.bool (mhas m0 a1))])) rfl q16 ?_)
      refine ⟨_, _, rfl, PH.Le.refl _, ?_, ?_⟩
      ·
       exact rfl
      ·
       exact I18
     ·
      intro vs17 f w18 S18 X16 le18 hA16 hK17 hI17
      have I19 : Inv w18 S18 (X16) := hI17
      have q17 : f 19 = (Value.tuple #[(Value.int .i64 ((mlook 0 m0 a1))), (Value.bool (mhas m0 a1))]) := vt (hA16.at_ 6 rfl _ rfl) rfl
      refine opg_plain rfl rfl (op_extract (v := (Value.int .i64 ((mlook 0 m0 a1)))) rfl q17 rfl ?_)
      refine ⟨_, _, rfl, PH.Le.refl _, ?_, ?_⟩
      ·
       exact rfl
      ·
       exact I19
     ·
      intro vs18 f w19 S19 X17 le19 hA17 hK18 hI18
      have I20 : Inv w19 S19 (X17) := hI18
      have q18 : f 19 = (Value.tuple #[(Value.int .i64 ((mlook 0 m0 a1))), (Value.bool (mhas m0 a1))]) := vt (hA17.at_ 6 rfl _ rfl) rfl
      refine opg_plain rfl rfl (op_extract (v := (Value.bool (mhas m0 a1))) rfl q18 rfl ?_)
      refine ⟨_, _, rfl, PH.Le.refl _, ?_, ?_⟩
      ·
       exact rfl
      ·
       exact I20
     ·
      intro vs19 f w20 S20 X18 le20 hA18 hK19 hI19
      have I21 : Inv w20 S20 (X18) := hI19
      have q19 : f 26 = (Value.int .i64 ((mlook 0 m0 a1))) := vt (hA18.at_ 7 rfl _ rfl) rfl
      refine opg_plain rfl rfl (op_assign (v := (Value.int .i64 ((mlook 0 m0 a1)))) rfl q19 ?_)
      refine ⟨_, _, rfl, PH.Le.refl _, ?_, ?_⟩
      ·
       exact rfl
      ·
       exact I21
     ·
      intro vs20 f w21 S21 X19 le21 hA19 hK20 hI20
      have I22 : Inv w21 S21 (X19) := hI20
      have q20 : f 27 = (Value.bool (mhas m0 a1)) := vt (hA19.at_ 8 rfl _ rfl) rfl
      refine opg_plain rfl rfl (op_assign (v := (Value.bool (mhas m0 a1))) rfl q20 ?_)
      refine ⟨_, _, rfl, PH.Le.refl _, ?_, ?_⟩
      ·
       exact rfl
      ·
       exact I22
     ·
      intro vs21 f w22 S22 le22 hF2 hK21 hI21
      have e7 : f 0 = v0 := (hK21 0 (keep_all rfl)).trans e4
      have e8 : f 3 = (Value.pointer (some ⟨g1, 0, none⟩)) := (hK21 3 (keep_all rfl)).trans e5
      have I23 : Inv w22 S22 (MapB (K := Control_place) (V := Int) a0.known.g (m0) :: Fr) := hI21
      have q21 : f 5 = (Value.int .i64 ((mlook 0 m0 a1))) := vt (hF2.at_ 9 rfl _ rfl) rfl
      have q22 : f 6 = (Value.bool (mhas m0 a1)) := vt (hF2.at_ 10 rfl _ rfl) rfl
      refine wp_seq' ?_
      refine wp_region' ?_
      refine wl_op rfl (op_move (v := (Value.bool (mhas m0 a1))) rfl q22 ?_)
      refine wl_nil ?_
      rcases ifs h with ⟨hc3, h⟩ | ⟨hc3, h⟩
      ·
       refine wp_cond_t (b := mhas m0 a1) rfl hc3 ?_
       refine wp_seq' ?_
       refine wp_region' ?_
       refine wl_op rfl (op_move (v := (Value.int .i64 ((mlook 0 m0 a1)))) rfl q21 ?_)
       refine wl_op rfl (op_assign (v := (Value.int .i64 ((mlook 0 m0 a1)))) rfl rfl ?_)
       refine wl_nil ?_
       refine wp_ret' ?_
       obtain rfl := Option.some.inj h
       exact ⟨(Value.int .i64 ((mlook 0 m0 a1))), (res1 rfl rfl), _, [MapB (K := Control_place) (V := Int) a0.known.g (m0)], ((le1.trans le10).trans le22), I23, rfl, rfl⟩
      ·
       refine wp_cond_f (b := mhas m0 a1) rfl hc3 ?_
       refine wp_skip' ?_
       refine wp_seq' ?_
       obtain ⟨x1, hx1, h⟩ := bnd h
       obtain ⟨x2, hx2, h⟩ := bnd h
       obtain ⟨x3, hx3, h⟩ := bnd h
       obtain ⟨x4, hx4, h⟩ := bnd h
       refine wp_draw (sps := [⟨some 30, [], [0], fun vs_ T_ => fr0 vs_ 0 = v0, [], [], [], fun _ h_ => h_⟩, ⟨some 31, [], [1], fun vs_ T_ => fr0 vs_ 0 = v0, [], [], [], fun _ h_ => h_⟩, ⟨some 32, [], [2], fun vs_ T_ => fr0 vs_ 0 = (Value.agg #[(Value.int .i64 (a1.tick)), (Value.int .i64 (a1.door.left)), (Value.bool (a1.door.shut))]), [], [], [], fun _ h_ => h_⟩, ⟨some 33, [1, 2], [3], fun vs_ T_ => fr0 vs_ 0 = (Value.agg #[(Value.int .i64 (x1.tick)), (Value.int .i64 (x1.door.left)), (Value.bool (x1.door.shut))]), [0], [], [], fun _ h_ => h_⟩, ⟨some 34, [0, 1, 2, 3], [4], fun vs_ T_ => fr0 vs_ 0 = (Value.int .i64 (x2.1)), [], [0], [1], fun _ h_ => h_⟩, ⟨some 35, [], [5], fun vs_ T_ => fr0 vs_ 0 = v0, [], [], [], fun _ h_ => h_⟩, ⟨some 36, [], [6], fun vs_ T_ => fr0 vs_ 0 = v0, [], [], [], fun _ h_ => h_⟩, ⟨some 37, [], [7], fun vs_ T_ => fr0 vs_ 0 = (Value.agg #[(Value.int .i64 (a1.tick)), (Value.int .i64 (a1.door.left)), (Value.bool (a1.door.shut))]), [], [], [], fun _ h_ => h_⟩, ⟨some 38, [0, 1, 2, 3, 4, 6, 7], [8], fun vs_ T_ => fr0 vs_ 0 = (Value.agg #[(Value.int .i64 (x3.tick)), (Value.int .i64 (x3.door.left)), (Value.bool (x3.door.shut))]), [1], [], [], fun _ h_ => h_⟩, ⟨some 39, [0, 1, 2, 3, 4, 5, 6, 7, 8], [9], fun vs_ T_ => fr0 vs_ 0 = (Value.int .i64 (x4.1)), [], [1], [2], fun _ h_ => h_⟩, ⟨some 40, [0, 1, 2, 3, 4, 5, 6, 7, 8, 9], [10], fun vs_ T_ => fr0 vs_ 0 = (Value.int .i64 (w64 (x4.1 + 1))), [], [], [], fun _ h_ => h_⟩, ⟨some 41, [0, 1, 2, 3, 4, 5, 6, 7, 8, 9, 10], [11], fun vs_ T_ => fr0 vs_ 0 = (Value.int .i64 (minI x2.1 (w64 (x4.1 + 1)))), [], [], [], fun _ h_ => h_⟩, ⟨some 7, [0, 1, 2, 3, 4, 5, 6, 7, 8, 9, 10, 11], [12], fun vs_ T_ => fr0 vs_ 0 = (Value.int .i64 (minI x2.1 (w64 (x4.1 + 1)))), [], [], [], fun _ h_ => h_⟩]) (tks := [⟨none, some 4, [], fun vs_ => MapB (K := Control_place) (V := Int) a0.known.g (m0)⟩, ⟨some 4, some 9, [], fun vs_ => MapB (K := Control_place) (V := Int) a0.known.g (x2.2)⟩, ⟨some 9, none, [], fun vs_ => MapB (K := Control_place) (V := Int) a0.known.g (x4.2)⟩]) (O := Fr) rfl (by kernel_rfl) I23 ⟨?_, ?_, ?_, ?_, ?_, ?_, ?_, ?_, ?_, ?_, ?_, ?_, ?_, trivial⟩ ?_
       ·
        intro vs22 f w27 S25 X20 le25 hA20 hK22 hI22
        have I28 : Inv w27 S25 (X20) := hI22
        refine opg_plain rfl rfl (op_move (v := v0) rfl ((hK22 0 (keep_of rfl)).trans e7) ?_)
        refine ⟨_, _, rfl, PH.Le.refl _, ?_, ?_⟩
        ·
         exact rfl
        ·
         exact I28
       ·
        intro vs23 f w28 S26 X21 le26 hA21 hK23 hI23
        have I29 : Inv w28 S26 (X21) := hI23
        refine opg_plain rfl rfl (op_move (v := v0) rfl ((hK23 0 (keep_of rfl)).trans e7) ?_)
        refine ⟨_, _, rfl, PH.Le.refl _, ?_, ?_⟩
        ·
         exact rfl
        ·
         exact I29
       ·
        intro vs24 f w29 S27 X22 le27 hA22 hK24 hI24
        have I30 : Inv w29 S27 (X22) := hI24
        refine opg_plain rfl rfl (op_load (v := (Value.pointer (some ⟨g1, 0, none⟩))) (e := a1) rfl sh99 ((hK24 3 (keep_of rfl)).trans e8) ((p1.mono ((le10.trans le22).trans le27)).at_ I30) (fun u8 hu8 => ?_))
        have e9 := Control_place.inv hu8
        subst e9
        refine ⟨_, _, rfl, PH.Le.refl _, ?_, ?_⟩
        ·
         exact rfl
        ·
         exact I30
       ·
        intro vs25 f w30 S28 X23 le28 hA23 hK25 hI25
        have I31 : Inv w30 S28 (MapB (K := Control_place) (V := Int) a0.known.g (m0) :: X23) := hI25
        have q23 : f 31 = v0 := vt (hA23.at_ 0 rfl _ rfl) rfl
        have q24 : f 32 = (Value.agg #[(Value.int .i64 (a1.tick)), (Value.int .i64 (a1.door.left)), (Value.bool (a1.door.shut))]) := vt (hA23.at_ 1 rfl _ rfl) rfl
        refine opg_plain rfl rfl (op_call_v (vs := [v0, (Value.agg #[(Value.int .i64 (a1.tick)), (Value.int .i64 (a1.door.left)), (Value.bool (a1.door.shut))]), (Value.bool (false))]) (r := (Value.agg #[(Value.int .i64 (x1.tick)), (Value.int .i64 (x1.door.left)), (Value.bool (x1.door.shut))])) rfl ca60 rfl (args3 q23 q24 rfl) I31 (fun Fr_ hF_ => F60_ok hF_ (h0_.mono (((le1.trans le10).trans le22).trans le28)) (Control_place.rv (s := a1)) hx1) (fun w31 I32 => ?_))
        refine ⟨_, _, rfl, PH.Le.refl _, ?_, ?_⟩
        ·
         exact rfl
        ·
         exact I32
       ·
        intro vs26 f w32 S29 X24 le29 hA24 hK26 hI26
        have I33 : Inv w32 S29 (MapB (K := Control_place) (V := Int) a0.known.g (m0) :: X24) := hI26
        have q25 : f 30 = v0 := vt (hA24.at_ 0 rfl _ rfl) rfl
        have q26 : f 33 = (Value.agg #[(Value.int .i64 (x1.tick)), (Value.int .i64 (x1.door.left)), (Value.bool (x1.door.shut))]) := vt (hA24.at_ 3 rfl _ rfl) rfl
        refine opg_plain rfl rfl (op_call (vs := [v0, (Value.agg #[(Value.int .i64 (x1.tick)), (Value.int .i64 (x1.door.left)), (Value.bool (x1.door.shut))])]) rfl ca59 rfl (args2 q25 q26) (ih (a0 := a0) I33 (h0_.mono (((le1.trans le10).trans le22).trans le29)) (Control_place.rv (s := x1)) hx2) (fun v3 w33 S30 O3 le30 I34 hv3 => ?_))
        obtain ⟨rfl, rfl⟩ := hv3
        refine ⟨_, _, rfl, le30, ?_, ?_⟩
        ·
         exact rfl
        ·
         exact I34
       ·
        intro vs27 f w34 S31 X25 le31 hA25 hK27 hI27
        have I35 : Inv w34 S31 (X25) := hI27
        refine opg_plain rfl rfl (op_move (v := v0) rfl ((hK27 0 (keep_of rfl)).trans e7) ?_)
        refine ⟨_, _, rfl, PH.Le.refl _, ?_, ?_⟩
        ·
         exact rfl
        ·
         exact I35
       ·
        intro vs28 f w35 S32 X26 le32 hA26 hK28 hI28
        have I36 : Inv w35 S32 (X26) := hI28
        refine opg_plain rfl rfl (op_move (v := v0) rfl ((hK28 0 (keep_of rfl)).trans e7) ?_)
        refine ⟨_, _, rfl, PH.Le.refl _, ?_, ?_⟩
        ·
         exact rfl
        ·
         exact I36
       ·
        intro vs29 f w36 S33 X27 le33 hA27 hK29 hI29
        have I37 : Inv w36 S33 (X27) := hI29
        refine opg_plain rfl rfl (op_load (v := (Value.pointer (some ⟨g1, 0, none⟩))) (e := a1) rfl sh99 ((hK29 3 (keep_of rfl)).trans e8) ((p1.mono ((le10.trans le22).trans le33)).at_ I37) (fun u9 hu9 => ?_))
        have e10 := Control_place.inv hu9
        subst e10
        refine ⟨_, _, rfl, PH.Le.refl _, ?_, ?_⟩
        ·
         exact rfl
        ·
         exact I37
       ·
        intro vs30 f w37 S34 X28 le34 hA28 hK30 hI30
        have I38 : Inv w37 S34 (MapB (K := Control_place) (V := Int) a0.known.g (x2.2) :: X28) := hI30
        have q27 : f 36 = v0 := vt (hA28.at_ 5 rfl _ rfl) rfl
        have q28 : f 37 = (Value.agg #[(Value.int .i64 (a1.tick)), (Value.int .i64 (a1.door.left)), (Value.bool (a1.door.shut))]) := vt (hA28.at_ 6 rfl _ rfl) rfl
        refine opg_plain rfl rfl (op_call_v (vs := [v0, (Value.agg #[(Value.int .i64 (a1.tick)), (Value.int .i64 (a1.door.left)), (Value.bool (a1.door.shut))]), (Value.bool (true))]) (r := (Value.agg #[(Value.int .i64 (x3.tick)), (Value.int .i64 (x3.door.left)), (Value.bool (x3.door.shut))])) rfl ca60 rfl (args3 q27 q28 rfl) I38 (fun Fr_ hF_ => F60_ok hF_ (h0_.mono (((le1.trans le10).trans le22).trans le34)) (Control_place.rv (s := a1)) hx3) (fun w38 I39 => ?_))
        refine ⟨_, _, rfl, PH.Le.refl _, ?_, ?_⟩
        ·
         exact rfl
        ·
         exact I39
       ·
        intro vs31 f w39 S35 X29 le35 hA29 hK31 hI31
        have I40 : Inv w39 S35 (MapB (K := Control_place) (V := Int) a0.known.g (x2.2) :: X29) := hI31
        have q29 : f 35 = v0 := vt (hA29.at_ 5 rfl _ rfl) rfl
        have q30 : f 38 = (Value.agg #[(Value.int .i64 (x3.tick)), (Value.int .i64 (x3.door.left)), (Value.bool (x3.door.shut))]) := vt (hA29.at_ 8 rfl _ rfl) rfl
        refine opg_plain rfl rfl (op_call (vs := [v0, (Value.agg #[(Value.int .i64 (x3.tick)), (Value.int .i64 (x3.door.left)), (Value.bool (x3.door.shut))])]) rfl ca59 rfl (args2 q29 q30) (ih (a0 := a0) I40 (h0_.mono (((le1.trans le10).trans le22).trans le35)) (Control_place.rv (s := x3)) hx4) (fun v4 w40 S36 O4 le36 I41 hv4 => ?_))
        obtain ⟨rfl, rfl⟩ := hv4
        refine ⟨_, _, rfl, le36, ?_, ?_⟩
        ·
         exact rfl
        ·
         exact I41
       ·
        intro vs32 f w41 S37 X30 le37 hA30 hK32 hI32
        have I42 : Inv w41 S37 (X30) := hI32
        have q31 : f 39 = (Value.int .i64 (x4.1)) := vt (hA30.at_ 9 rfl _ rfl) rfl
        refine opg_plain rfl rfl (op_add (a := x4.1) (b := 1) rfl q31 rfl ?_)
        refine ⟨_, _, rfl, PH.Le.refl _, ?_, ?_⟩
        ·
         exact rfl
        ·
         exact I42
       ·
        intro vs33 f w42 S38 X31 le38 hA31 hK33 hI33
        have I43 : Inv w42 S38 (X31) := hI33
        have q32 : f 34 = (Value.int .i64 (x2.1)) := vt (hA31.at_ 4 rfl _ rfl) rfl
        have q33 : f 40 = (Value.int .i64 (w64 (x4.1 + 1))) := vt (hA31.at_ 10 rfl _ rfl) rfl
        refine opg_plain rfl rfl (op_min (a := x2.1) (b := w64 (x4.1 + 1)) rfl q32 q33 ?_)
        refine ⟨_, _, rfl, PH.Le.refl _, ?_, ?_⟩
        ·
         exact rfl
        ·
         exact I43
       ·
        intro vs34 f w43 S39 X32 le39 hA32 hK34 hI34
        have I44 : Inv w43 S39 (X32) := hI34
        have q34 : f 41 = (Value.int .i64 (minI x2.1 (w64 (x4.1 + 1)))) := vt (hA32.at_ 11 rfl _ rfl) rfl
        refine opg_plain rfl rfl (op_assign (v := (Value.int .i64 (minI x2.1 (w64 (x4.1 + 1))))) rfl q34 ?_)
        refine ⟨_, _, rfl, PH.Le.refl _, ?_, ?_⟩
        ·
         exact rfl
        ·
         exact I44
       ·
        intro vs35 f w44 S40 le40 hF3 hK35 hI35
        have e11 : f 0 = v0 := (hK35 0 (keep_all rfl)).trans e7
        have e12 : f 3 = (Value.pointer (some ⟨g1, 0, none⟩)) := (hK35 3 (keep_all rfl)).trans e8
        have I45 : Inv w44 S40 (MapB (K := Control_place) (V := Int) a0.known.g (x4.2) :: Fr) := hI35
        have q35 : f 7 = (Value.int .i64 (minI x2.1 (w64 (x4.1 + 1)))) := vt (hF3.at_ 12 rfl _ rfl) rfl
        refine wp_seq' ?_
        refine wp_draw (sps := [⟨some 42, [], [0], fun vs_ T_ => fr0 vs_ 0 = v0, [], [], [], fun _ h_ => h_⟩, ⟨some 43, [0], [1], fun vs_ T_ => fr0 vs_ 0 = v0, [], [], [], fun _ h_ => h_⟩, ⟨some 44, [0, 1], [2], fun vs_ T_ => fr0 vs_ 0 = (fieldPtr v0 3), [0], [], [], fun _ h_ => h_⟩, ⟨some 45, [0, 1, 2], [3], fun vs_ T_ => fr0 vs_ 0 = (Value.map (some a0.known.g)), [], [], [], fun _ h_ => h_⟩, ⟨some 46, [], [4], fun vs_ T_ => fr0 vs_ 0 = (Value.agg #[(Value.int .i64 (a1.tick)), (Value.int .i64 (a1.door.left)), (Value.bool (a1.door.shut))]), [], [], [], fun _ h_ => h_⟩, ⟨some 47, [], [5], fun vs_ T_ => fr0 vs_ 0 = (Value.int .i64 (minI x2.1 (w64 (x4.1 + 1)))), [], [], [], fun _ h_ => h_⟩, ⟨none, [0, 1, 2, 3, 4, 5], [], fun vs_ T_ => True, [], [0], [1], fun _ h_ => h_⟩]) (tks := [⟨none, some 6, [], fun vs_ => MapB (K := Control_place) (V := Int) a0.known.g (x4.2)⟩, ⟨some 6, none, [], fun vs_ => MapB (K := Control_place) (V := Int) a0.known.g (mset x4.2 a1 (minI x2.1 (w64 (x4.1 + 1))))⟩]) (O := Fr) rfl (by kernel_rfl) I45 ⟨?_, ?_, ?_, ?_, ?_, ?_, ?_, trivial⟩ ?_
        ·
         intro vs36 f w46 S41 X33 le41 hA33 hK36 hI36
         have I47 : Inv w46 S41 (X33) := hI36
         refine opg_plain rfl rfl (op_move (v := v0) rfl ((hK36 0 (keep_of rfl)).trans e11) ?_)
         refine ⟨_, _, rfl, PH.Le.refl _, ?_, ?_⟩
         ·
          exact rfl
         ·
          exact I47
        ·
         intro vs37 f w47 S42 X34 le42 hA34 hK37 hI37
         have I48 : Inv w47 S42 (X34) := hI37
         have q36 : f 42 = v0 := vt (hA34.at_ 0 rfl _ rfl) rfl
         refine opg_plain rfl rfl (op_nilCheck_s (v := v0) rfl q36 (h0_.mono ((((le1.trans le10).trans le22).trans le40).trans le42)) ?_)
         refine ⟨_, _, rfl, PH.Le.refl _, ?_, ?_⟩
         ·
          exact rfl
         ·
          exact I48
        ·
         intro vs38 f w48 S43 X35 le43 hA35 hK38 hI38
         have I49 : Inv w48 S43 (MapB (K := Control_place) (V := Int) a0.known.g (x4.2) :: X35) := hI38
         have q37 : f 43 = v0 := vt (hA35.at_ 1 rfl _ rfl) rfl
         refine opg_plain rfl rfl (op_fieldAddr_t (v := v0) rfl fa95_3 q37 ((h0_.mono ((((le1.trans le10).trans le22).trans le40).trans le43)).at_ I49) ?_)
         refine ⟨_, _, rfl, PH.Le.refl _, ?_, ?_⟩
         ·
          exact rfl
         ·
          exact I49
        ·
         intro vs39 f w49 S44 X36 le44 hA36 hK39 hI39
         have I50 : Inv w49 S44 (X36) := hI39
         have q38 : f 44 = (fieldPtr v0 3) := vt (hA36.at_ 2 rfl _ rfl) rfl
         refine opg_plain rfl rfl (op_load_map (v := (fieldPtr v0 3)) (e := a0.known) rfl sh93 q38 (((h0_.mono ((((le1.trans le10).trans le22).trans le40).trans le44)).at_ I50).fld Control_cutter.fld3) ?_)
         refine ⟨_, _, rfl, PH.Le.refl _, ?_, ?_⟩
         ·
          exact rfl
         ·
          exact I50
        ·
         intro vs40 f w50 S45 X37 le45 hA37 hK40 hI40
         have I51 : Inv w50 S45 (X37) := hI40
         refine opg_plain rfl rfl (op_load (v := (Value.pointer (some ⟨g1, 0, none⟩))) (e := a1) rfl sh99 ((hK40 3 (keep_of rfl)).trans e12) ((p1.mono (((le10.trans le22).trans le40).trans le45)).at_ I51) (fun u11 hu11 => ?_))
         have e13 := Control_place.inv hu11
         subst e13
         refine ⟨_, _, rfl, PH.Le.refl _, ?_, ?_⟩
         ·
          exact rfl
         ·
          exact I51
        ·
         intro vs41 f w51 S46 X38 le46 hA38 hK41 hI41
         have I52 : Inv w51 S46 (X38) := hI41
         refine opg_plain rfl rfl (op_move (v := (Value.int .i64 (minI x2.1 (w64 (x4.1 + 1))))) rfl ((hK41 7 (keep_of rfl)).trans q35) ?_)
         refine ⟨_, _, rfl, PH.Le.refl _, ?_, ?_⟩
         ·
          exact rfl
         ·
          exact I52
        ·
         intro vs42 f w52 S47 X39 le47 hA39 hK42 hI42
         have I53 : Inv w52 S47 (MapB (K := Control_place) (V := Int) a0.known.g (x4.2) :: X39) := hI42
         have q39 : f 45 = (Value.map (some a0.known.g)) := vt (hA39.at_ 3 rfl _ rfl) rfl
         have q40 : f 46 = (Value.agg #[(Value.int .i64 (a1.tick)), (Value.int .i64 (a1.door.left)), (Value.bool (a1.door.shut))]) := vt (hA39.at_ 4 rfl _ rfl) rfl
         have q41 : f 47 = (Value.int .i64 (minI x2.1 (w64 (x4.1 + 1)))) := vt (hA39.at_ 5 rfl _ rfl) rfl
         refine opg_plain rfl rfl (op_mapUpdate (k := a1) (e := minI x2.1 (w64 (x4.1 + 1))) Try.underlying93 kt99 q39 q40 q41 I53 (Control_place.rv (s := a1)) (rv_int' _) (fun w53 I54 => ?_))
         refine ⟨undef, _, rfl, PH.Le.refl _, ?_, ?_⟩
         ·
          exact trivial
         ·
          exact I54
        ·
         intro vs43 f w54 S48 le48 hF4 hK43 hI43
         have e14 : f 7 = (Value.int .i64 (minI x2.1 (w64 (x4.1 + 1)))) := (hK43 7 (keep_all rfl)).trans q35
         have I55 : Inv w54 S48 (MapB (K := Control_place) (V := Int) a0.known.g (mset x4.2 a1 (minI x2.1 (w64 (x4.1 + 1)))) :: Fr) := hI43
         refine wp_seq' ?_
         refine wp_region' ?_
         refine wl_op rfl (op_move (v := (Value.int .i64 (minI x2.1 (w64 (x4.1 + 1))))) rfl e14 ?_)
         refine wl_op rfl (op_assign (v := (Value.int .i64 (minI x2.1 (w64 (x4.1 + 1))))) rfl rfl ?_)
         refine wl_nil ?_
         refine wp_ret' ?_
         obtain rfl := Option.some.inj h
         exact ⟨(Value.int .i64 (minI x2.1 (w64 (x4.1 + 1)))), (res1 rfl rfl), _, [MapB (K := Control_place) (V := Int) a0.known.g (mset x4.2 a1 (minI x2.1 (w64 (x4.1 + 1))))], ((((le1.trans le10).trans le22).trans le40).trans le48), I55, rfl, rfl⟩

set_option maxHeartbeats 4000000 in
set_option maxRecDepth 100000 in
theorem F41_ok {w : World} {S : PH} {Fr : List HP} {a0 : Panel} {v0 : Value} {a1 : Int} {a2 : (List Signal)} {v2 : Value} {a3 : Int} {r : (List Int) × Int} (hI : Inv w S (Fr)) (h0_ : RV S v0 a0) (h2_ : RV S v2 a2) (h : F41 a0 a1 a2 a3 = some r) :
    Calls Try.prog 41 [v0, (Value.int .i64 (a1)), v2, (Value.int .i64 (a3))].toArray w (Done S Fr (fun T_ v_ O_ => ∃ (a0_ : Option Addr) (n0_ k0_ : Nat), v_ = (Value.tuple #[(Value.slice a0_ n0_ k0_), (Value.int .i64 (r.2))]) ∧ O_ = [Row (α := Int) 3 (Value.slice a0_ n0_ k0_) (r.1)])) := by
 unfold F41 at h
 obtain ⟨c1, e1, r1⟩ := Panel.inv h0_
 subst e1
 obtain ⟨z1, m1, k1, e2⟩ := rv_form r1
 subst e2
 obtain ⟨z2, m2, k2, e3⟩ := rv_form h2_
 subst e3
 refine calls_enter (n := 71) (vs := [(Value.agg #[(Value.int .i64 (a0.Sensors)), (Value.slice z1 m1 k1), (Value.int .i64 (a0.Stale)), (Value.int .i64 (a0.Limit))]), (Value.int .i64 (a1)), (Value.slice z2 m2 k2), (Value.int .i64 (a3))]) Try.func41 rfl rfl rfl ?_
 refine wp_seq' ?_
 refine wp_region' ?_
 refine wl_op rfl (op_box (v := (Value.agg #[(Value.int .i64 (a0.Sensors)), (Value.slice z1 m1 k1), (Value.int .i64 (a0.Stale)), (Value.int .i64 (a0.Limit))])) rfl hI rfl (fun g1 w1 I1 => ?_))
 obtain ⟨S1, le1, I2, p1⟩ := Inv.boxFreeze (x := a0) I1 (Panel.rv (s := a0) r1)
 refine wl_op rfl (op_assign (v := (Value.slice none 0 0)) rfl rfl ?_)
 refine wl_op rfl (op_assign (v := (Value.int .i64 (0))) rfl rfl ?_)
 refine wl_nil ?_
 refine wp_seq' ?_
 refine wp_region' ?_
 refine wl_op rfl (op_load (v := (Value.pointer (some ⟨g1, 0, none⟩))) (e := a0) rfl sh24 rfl (p1.at_ I2) (fun u1 hu1 => ?_))
 obtain ⟨c2, e4, r2⟩ := Panel.inv hu1
 subst e4
 obtain ⟨z3, m3, k3, e5⟩ := rv_form r2
 subst e5
 refine wl_op rfl (op_move (v := (Value.int .i64 (a1))) rfl rfl ?_)
 refine wl_op rfl (op_move (v := (Value.slice z2 m2 k2)) rfl rfl ?_)
 obtain ⟨x1, hx1, h⟩ := bnd h
 refine wl_op rfl (op_call (vs := [(Value.agg #[(Value.int .i64 (a0.Sensors)), (Value.slice z3 m3 k3), (Value.int .i64 (a0.Stale)), (Value.int .i64 (a0.Limit))]), (Value.int .i64 (a1)), (Value.slice z2 m2 k2)]) rfl ca45 rfl (args3 rfl rfl rfl) (F45_ok I2 (Panel.rv (s := a0) r2) (h2_.mono le1) hx1) (fun v1 w2 S2 O1 le2 I3 hv1 => ?_))
 obtain ⟨z4, m4, k4, rfl, rfl⟩ := hv1
 obtain ⟨S3, le3, I4, r3⟩ := Inv.rowFreeze I3
 refine wl_op rfl (op_move (v := (Value.tuple #[(Value.slice z4 m4 k4), (Value.int .i64 (x1.2))])) rfl rfl ?_)
 refine wl_op rfl (op_extract (v := (Value.slice z4 m4 k4)) rfl rfl rfl ?_)
 refine wl_op rfl (op_extract (v := (Value.int .i64 (x1.2))) rfl rfl rfl ?_)
 refine wl_op rfl (op_assign (v := (Value.slice z4 m4 k4)) rfl rfl ?_)
 refine wl_op rfl (op_assign (v := (Value.int .i64 (x1.2))) rfl rfl ?_)
 refine wl_nil ?_
 refine wp_seq' ?_
 refine wp_seq' ?_
 refine wp_region' ?_
 refine wl_op rfl (op_move (v := (Value.int .i64 (x1.2))) rfl rfl ?_)
 refine wl_op rfl (op_neq (a := x1.2) (b := 0) rfl rfl rfl ?_)
 refine wl_nil ?_
 rcases ifs h with ⟨hc1, h⟩ | ⟨hc1, h⟩
 ·
  refine wp_cond_t (b := x1.2 != 0) rfl hc1 ?_
  refine wp_seq' ?_
  refine wp_region' ?_
  refine wl_op rfl (op_move (v := (Value.int .i64 (x1.2))) rfl rfl ?_)
  refine wl_op rfl (op_assign (v := (Value.slice none 0 0)) rfl rfl ?_)
  refine wl_op rfl (op_assign (v := (Value.int .i64 (x1.2))) rfl rfl ?_)
  refine wl_nil ?_
  refine wp_ret' ?_
  have I5 := Inv.rowNil (α := Int) (T := 3) I4
  obtain rfl := Option.some.inj h
  exact ⟨(Value.tuple #[(Value.slice none 0 0), (Value.int .i64 (x1.2))]), (res2 rfl rfl rfl), _, [Row (α := Int) 3 (Value.slice none 0 0) (([] : List Int))], ((le1.trans le2).trans le3), I5, _, _, _, rfl, rfl⟩
 ·
  refine wp_cond_f (b := x1.2 != 0) rfl hc1 ?_
  refine wp_skip' ?_
  refine wp_seq' ?_
  refine wp_seq' ?_
  refine wp_region' ?_
  refine wl_op rfl (op_move (v := (Value.int .i64 (a3))) rfl rfl ?_)
  refine wl_op rfl (op_fieldAddr_t (v := (Value.pointer (some ⟨g1, 0, none⟩))) rfl fa24_1 rfl ((p1.mono (le2.trans le3)).at_ I4) ?_)
  refine wl_op rfl (op_load (v := (fieldPtr (Value.pointer (some ⟨g1, 0, none⟩)) 1)) (e := a0.Doors) rfl sh22 rfl (((p1.mono (le2.trans le3)).at_ I4).fld Panel.fld1) (fun u2 hu2 => ?_))
  obtain ⟨z5, m5, k5, e6⟩ := rv_form hu2
  subst e6
  refine wl_op rfl (op_len_rv rfl Try.underlying22 rfl hu2 ?_)
  refine wl_op rfl (op_sub (a := (a0.Doors.length : Int)) (b := 1) rfl rfl rfl ?_)
  obtain ⟨x2, hx2, h⟩ := bnd h
  refine wl_op rfl (op_call_v (vs := [(Value.int .i64 (a3)), (Value.int .i64 (0)), (Value.int .i64 (w64 ((a0.Doors.length : Int) - 1)))]) (r := (Value.bool (x2))) rfl ca48 rfl (args3 rfl rfl rfl) I4 (fun Fr_ hF_ => F48_ok hF_  hx2) (fun w3 I6 => ?_))
  refine wl_op rfl (op_not (b := x2) rfl rfl ?_)
  refine wl_nil ?_
  rcases ifs h with ⟨hc2, h⟩ | ⟨hc2, h⟩
  ·
   refine wp_cond_t (b := !x2) rfl hc2 ?_
   refine wp_seq' ?_
   refine wp_region' ?_
   refine wl_op rfl (op_assign (v := (Value.slice none 0 0)) rfl rfl ?_)
   refine wl_op rfl (op_assign (v := (Value.int .i64 (1))) rfl rfl ?_)
   refine wl_nil ?_
   refine wp_ret' ?_
   have I7 := Inv.rowNil (α := Int) (T := 3) I6
   obtain rfl := Option.some.inj h
   exact ⟨(Value.tuple #[(Value.slice none 0 0), (Value.int .i64 (1))]), (res2 rfl rfl rfl), _, [Row (α := Int) 3 (Value.slice none 0 0) (([] : List Int))], ((le1.trans le2).trans le3), I7, _, _, _, rfl, rfl⟩
  ·
   refine wp_cond_f (b := !x2) rfl hc2 ?_
   refine wp_skip' ?_
   refine wp_seq' ?_
   refine wp_seq' ?_
   refine wp_region' ?_
   refine wl_op rfl (op_move (v := (Value.int .i64 (a1))) rfl rfl ?_)
   refine wl_op rfl (op_eql (a := a1) (b := 0) rfl rfl rfl ?_)
   refine wl_nil ?_
   rcases ifs h with ⟨hc3, h⟩ | ⟨hc3, h⟩
   ·
    refine wp_cond_t (b := a1 == 0) rfl hc3 ?_
    refine wp_seq' ?_
    refine wp_region' ?_
    refine wl_op rfl (op_assign (v := (Value.slice none 0 0)) rfl rfl ?_)
    refine wl_op rfl (op_assign (v := (Value.int .i64 (3))) rfl rfl ?_)
    refine wl_nil ?_
    refine wp_ret' ?_
    have I8 := Inv.rowNil (α := Int) (T := 3) I6
    obtain rfl := Option.some.inj h
    exact ⟨(Value.tuple #[(Value.slice none 0 0), (Value.int .i64 (3))]), (res2 rfl rfl rfl), _, [Row (α := Int) 3 (Value.slice none 0 0) (([] : List Int))], ((le1.trans le2).trans le3), I8, _, _, _, rfl, rfl⟩
   ·
    refine wp_cond_f (b := a1 == 0) rfl hc3 ?_
    refine wp_skip' ?_
    refine wp_seq' ?_
    refine wp_region' ?_
    refine wl_op rfl (op_move (v := (Value.slice z4 m4 k4)) rfl rfl ?_)
    refine wl_op rfl (op_fieldAddr_t (v := (Value.pointer (some ⟨g1, 0, none⟩))) rfl fa24_1 rfl ((p1.mono (le2.trans le3)).at_ I6) ?_)
    refine wl_op rfl (op_load (v := (fieldPtr (Value.pointer (some ⟨g1, 0, none⟩)) 1)) (e := a0.Doors) rfl sh22 rfl (((p1.mono (le2.trans le3)).at_ I6).fld Panel.fld1) (fun u3 hu3 => ?_))
    obtain ⟨z6, m6, k6, e7⟩ := rv_form hu3
    subst e7
    refine wl_op rfl (op_move (v := (Value.int .i64 (a3))) rfl rfl ?_)
    obtain ⟨x3, hx3, h⟩ := bnd h
    refine wl_op rfl (op_indexAddr_rv (v := (Value.slice z6 m6 k6)) (i := a3) (e := x3) rfl Try.underlying22 sh33 rfl hu3 rfl hx3 ?_)
    refine wl_op rfl (op_fieldAddr_t (v := (elemPtr (Value.slice z6 m6 k6) (a3) (Enc.sz Gate))) rfl fa33_0 rfl (hu3.elem I6.in_ hx3) ?_)
    refine wl_op rfl (op_load_int (v := (fieldPtr (elemPtr (Value.slice z6 m6 k6) (a3) (Enc.sz Gate)) 0)) (e := x3.Wait) rfl sh3 rfl ((hu3.elem I6.in_ hx3).fld Gate.fld0) ?_)
    refine wl_op rfl (op_move (v := (Value.int .i64 (a3))) rfl rfl ?_)
    refine wl_op rfl (op_makeMap (K := Control_place) (V := Int) rfl I6 (fun g2 w4 I9 => ?_))
    refine wl_op rfl (op_build (qs := [(0, #[(Value.slice z4 m4 k4)]), (1, #[(Value.int .i64 (x3.Wait))]), (2, #[(Value.int .i64 (a3))]), (3, #[(Value.map (some g2))])]) (c := #[(Value.slice z4 m4 k4), (Value.int .i64 (x3.Wait)), (Value.int .i64 (a3)), (Value.map (some g2))]) rfl st95 ⟨rfl, rfl, ⟨rfl, rfl, ⟨rfl, rfl, ⟨rfl, rfl, trivial⟩⟩⟩⟩ rfl ?_)
    refine wl_op rfl (op_box (v := (Value.agg #[(Value.slice z4 m4 k4), (Value.int .i64 (x3.Wait)), (Value.int .i64 (a3)), (Value.map (some g2))])) rfl I9 rfl (fun g3 w5 I10 => ?_))
    obtain ⟨S4, le4, I11, p2⟩ := Inv.boxFreeze (x := (⟨x1.1, x3.Wait, a3, (⟨g2⟩ : MRef)⟩ : Control_cutter)) I10 (Control_cutter.rv (s := (⟨x1.1, x3.Wait, a3, (⟨g2⟩ : MRef)⟩ : Control_cutter)) r3)
    refine wl_op rfl (op_assign (v := (Value.pointer (some ⟨g3, 0, none⟩))) rfl rfl ?_)
    refine wl_nil ?_
    refine wp_seq' ?_
    refine wp_seq' ?_
    refine wp_region' ?_
    refine wl_op rfl (op_build (qs := []) (c := #[(Value.int .i64 (0)), (Value.int .i64 (0)), (Value.bool (false))]) rfl st99 trivial rfl ?_)
    refine wl_op rfl (op_alloc (z := (Value.agg #[(Value.int .i64 (0)), (Value.int .i64 (0)), (Value.bool (false))])) rfl I11 zo99 (fun g4 w6 (I12 : Inv w6 S4 (Cells g4 99 #[(Value.int .i64 (0)), (Value.int .i64 (0)), (Value.bool (false))] :: MapB (K := Control_place) (V := Int) g2 (([] : List (Control_place × Int))) :: Fr)) => ?_))
    refine wl_op rfl (op_store (v := (Value.agg #[(Value.int .i64 (0)), (Value.int .i64 (0)), (Value.bool (false))])) (cs := #[(Value.int .i64 (0)), (Value.int .i64 (0)), (Value.bool (false))]) sh99 I12 rfl rfl rfl (Nat.le_of_ble_eq_true rfl) rfl (fun w7 (I13 : Inv w7 S4 (Cells g4 99 #[(Value.int .i64 (0)), (Value.int .i64 (0)), (Value.bool (false))] :: MapB (K := Control_place) (V := Int) g2 (([] : List (Control_place × Int))) :: Fr)) => ?_))
    refine wl_nil ?_
    have I190 := Inv.rowNil (α := Int) (T := 3) I13
    obtain ⟨out1, hrun1, h⟩ := bnd h
    refine wp_cutN (fun f w => ∃ (S_ : PH) (z24 : Option Addr) (m24 k24 : Nat) (g22 : Nat), S4.Le S_ ∧ Inv w S_ (Row (α := Int) 3 (Value.slice z24 m24 k24) (out1.1) :: MapB (K := Control_place) (V := Int) g2 (out1.2.1) :: Cells g22 99 #[(Value.int .i64 (out1.2.2.1)), (Value.int .i64 (out1.2.2.2.1)), (Value.bool (out1.2.2.2.2))] :: Fr) ∧ f 1 = (Value.int .i64 (a1)) ∧ f 8 = (Value.slice z24 m24 k24) ∧ f 11 = (Value.pointer (some ⟨g3, 0, none⟩)) ∧ f 12 = (Value.pointer (some ⟨g22, 0, none⟩))) ?_ ?_
    ·
     refine wp_block' ?_
     refine wp_whileO (I := fun (s1 : (List Int × List (Control_place × Int) × Int × Int × Bool)) (f : Frm) (w : World) => ∃ (S_ : PH) (z23 : Option Addr) (m23 k23 : Nat) (g21 : Nat), S4.Le S_ ∧ Inv w S_ (Row (α := Int) 3 (Value.slice z23 m23 k23) (s1.1) :: MapB (K := Control_place) (V := Int) g2 (s1.2.1) :: Cells g21 99 #[(Value.int .i64 (s1.2.2.1)), (Value.int .i64 (s1.2.2.2.1)), (Value.bool (s1.2.2.2.2))] :: Fr) ∧ f 1 = (Value.int .i64 (a1)) ∧ f 8 = (Value.slice z23 m23 k23) ∧ f 11 = (Value.pointer (some ⟨g3, 0, none⟩)) ∧ f 12 = (Value.pointer (some ⟨g21, 0, none⟩))) hrun1 ⟨_, _, _, _, _, (PH.Le.refl _), (((I190.pull 1).pull 2).pull 2), rfl, rfl, rfl, rfl⟩ ?_
     rintro s1 f w o1 hI73 h1 hout1
     obtain ⟨S105, z23, m23, k23, g21, le105, I191, e68, e69, e70, e71⟩ := hI73
     refine wp_seq' ?_
     refine wp_seq' ?_
     refine wp_region' ?_
     refine wl_op rfl (op_fieldAddr (v := (Value.pointer (some ⟨g21, 0, none⟩))) rfl fa99_0 e71 rfl ?_)
     refine wl_op rfl (op_load1 (c := (Value.int .i64 (s1.2.2.1))) rfl sh3 (I191.nth 2 rfl) rfl rfl ?_)
     refine wl_op rfl (op_move (v := (Value.int .i64 (a1))) rfl e68 ?_)
     refine wl_op rfl (op_lss (a := s1.2.2.1) (b := a1) rfl rfl rfl ?_)
     refine wl_nil ?_
     rcases ifs h1 with ⟨hc16, h1⟩ | ⟨hc16, h1⟩
     ·
      refine wp_cond_t (b := decide (s1.2.2.1 < a1)) rfl hc16 ?_
      refine wp_skip' ?_
      refine wp_seq' ?_
      refine wp_block' ?_
      refine wp_seq' ?_
      obtain ⟨x40, hx40, h1⟩ := bnd h1
      obtain ⟨x41, hx41, h1⟩ := bnd h1
      obtain ⟨x42, hx42, h1⟩ := bnd h1
      refine wp_draw (sps := [⟨some 49, [], [0], fun vs_ T_ => fr0 vs_ 0 = (Value.pointer (some ⟨g3, 0, none⟩)), [], [], [], fun _ h_ => h_⟩, ⟨some 50, [], [1], fun vs_ T_ => fr0 vs_ 0 = (Value.pointer (some ⟨g3, 0, none⟩)), [], [], [], fun _ h_ => h_⟩, ⟨some 51, [], [2], fun vs_ T_ => fr0 vs_ 0 = (Value.agg #[(Value.int .i64 (s1.2.2.1)), (Value.int .i64 (s1.2.2.2.1)), (Value.bool (s1.2.2.2.2))]), [0], [], [], fun _ h_ => h_⟩, ⟨some 52, [1, 2], [3], fun vs_ T_ => fr0 vs_ 0 = (Value.agg #[(Value.int .i64 (x40.tick)), (Value.int .i64 (x40.door.left)), (Value.bool (x40.door.shut))]), [1], [], [], fun _ h_ => h_⟩, ⟨some 53, [0, 1, 2, 3], [4], fun vs_ T_ => fr0 vs_ 0 = (Value.int .i64 (x41.1)), [], [1], [2], fun _ h_ => h_⟩, ⟨some 54, [0, 1, 2, 3, 4], [5], fun vs_ T_ => fr0 vs_ 0 = (Value.int .i64 (w64 (x41.1 + 1))), [], [], [], fun _ h_ => h_⟩, ⟨some 55, [], [6], fun vs_ T_ => fr0 vs_ 0 = (Value.pointer (some ⟨g3, 0, none⟩)), [], [], [], fun _ h_ => h_⟩, ⟨some 56, [], [7], fun vs_ T_ => fr0 vs_ 0 = (Value.agg #[(Value.int .i64 (s1.2.2.1)), (Value.int .i64 (s1.2.2.2.1)), (Value.bool (s1.2.2.2.2))]), [0], [], [], fun _ h_ => h_⟩, ⟨some 57, [0, 1, 2, 3, 4, 6, 7], [8], fun vs_ T_ => fr0 vs_ 0 = (Value.int .i64 (x42.1)), [], [2], [3], fun _ h_ => h_⟩, ⟨some 58, [0, 1, 2, 3, 4, 5, 6, 7, 8], [9], fun vs_ T_ => fr0 vs_ 0 = (Value.bool ((w64 (x41.1 + 1)) == x42.1)), [], [], [], fun _ h_ => h_⟩, ⟨some 13, [0, 1, 2, 3, 4, 5, 6, 7, 8, 9], [10], fun vs_ T_ => fr0 vs_ 0 = (Value.bool ((w64 (x41.1 + 1)) == x42.1)), [], [], [], fun _ h_ => h_⟩]) (tks := [⟨none, none, [], fun vs_ => Cells g21 99 #[(Value.int .i64 (s1.2.2.1)), (Value.int .i64 (s1.2.2.2.1)), (Value.bool (s1.2.2.2.2))]⟩, ⟨none, some 4, [], fun vs_ => MapB (K := Control_place) (V := Int) g2 (s1.2.1)⟩, ⟨some 4, some 8, [], fun vs_ => MapB (K := Control_place) (V := Int) g2 (x41.2)⟩, ⟨some 8, none, [], fun vs_ => MapB (K := Control_place) (V := Int) g2 (x42.2)⟩]) (O := Row (α := Int) 3 (Value.slice z23 m23 k23) (s1.1) :: Fr) rfl (by kernel_rfl) ((I191.pull 1).pull 2) ⟨?_, ?_, ?_, ?_, ?_, ?_, ?_, ?_, ?_, ?_, ?_, trivial⟩ ?_
      ·
       intro vs73 f w180 S108 X67 le108 hA67 hK73 hI74
       have I195 : Inv w180 S108 (X67) := hI74
       refine opg_plain rfl rfl (op_move (v := (Value.pointer (some ⟨g3, 0, none⟩))) rfl ((hK73 11 (keep_of rfl)).trans e70) ?_)
       refine ⟨_, _, rfl, PH.Le.refl _, ?_, ?_⟩
       ·
        exact rfl
       ·
        exact I195
      ·
       intro vs74 f w181 S109 X68 le109 hA68 hK74 hI75
       have I196 : Inv w181 S109 (X68) := hI75
       refine opg_plain rfl rfl (op_move (v := (Value.pointer (some ⟨g3, 0, none⟩))) rfl ((hK74 11 (keep_of rfl)).trans e70) ?_)
       refine ⟨_, _, rfl, PH.Le.refl _, ?_, ?_⟩
       ·
        exact rfl
       ·
        exact I196
      ·
       intro vs75 f w182 S110 X69 le110 hA69 hK75 hI76
       have I197 : Inv w182 S110 (Cells g21 99 #[(Value.int .i64 (s1.2.2.1)), (Value.int .i64 (s1.2.2.2.1)), (Value.bool (s1.2.2.2.2))] :: X69) := hI76
       refine opg_plain rfl rfl (op_loadN (l := [(Value.int .i64 (s1.2.2.1)), (Value.int .i64 (s1.2.2.2.1)), (Value.bool (s1.2.2.2.2))]) rfl sh99 (I197.nth 0 rfl) ((hK75 12 (keep_of rfl)).trans e71) rfl rfl ?_)
       refine ⟨_, _, rfl, PH.Le.refl _, ?_, ?_⟩
       ·
        exact rfl
       ·
        exact I197
      ·
       intro vs76 f w183 S111 X70 le111 hA70 hK76 hI77
       have I198 : Inv w183 S111 (MapB (K := Control_place) (V := Int) g2 (s1.2.1) :: X70) := hI77
       have q67 : f 50 = (Value.pointer (some ⟨g3, 0, none⟩)) := vt (hA70.at_ 0 rfl _ rfl) rfl
       have q68 : f 51 = (Value.agg #[(Value.int .i64 (s1.2.2.1)), (Value.int .i64 (s1.2.2.2.1)), (Value.bool (s1.2.2.2.2))]) := vt (hA70.at_ 1 rfl _ rfl) rfl
       refine opg_plain rfl rfl (op_call_v (vs := [(Value.pointer (some ⟨g3, 0, none⟩)), (Value.agg #[(Value.int .i64 (s1.2.2.1)), (Value.int .i64 (s1.2.2.2.1)), (Value.bool (s1.2.2.2.2))]), (Value.bool (true))]) (r := (Value.agg #[(Value.int .i64 (x40.tick)), (Value.int .i64 (x40.door.left)), (Value.bool (x40.door.shut))])) rfl ca60 rfl (args3 q67 q68 rfl) I198 (fun Fr_ hF_ => F60_ok hF_ (p2.mono (le105.trans le111)) (Control_place.rv (s := (⟨s1.2.2.1, (⟨s1.2.2.2.1, s1.2.2.2.2⟩ : Control_door)⟩ : Control_place))) hx40) (fun w184 I199 => ?_))
       refine ⟨_, _, rfl, PH.Le.refl _, ?_, ?_⟩
       ·
        exact rfl
       ·
        exact I199
      ·
       intro vs77 f w185 S112 X71 le112 hA71 hK77 hI78
       have I200 : Inv w185 S112 (MapB (K := Control_place) (V := Int) g2 (s1.2.1) :: X71) := hI78
       have q69 : f 49 = (Value.pointer (some ⟨g3, 0, none⟩)) := vt (hA71.at_ 0 rfl _ rfl) rfl
       have q70 : f 52 = (Value.agg #[(Value.int .i64 (x40.tick)), (Value.int .i64 (x40.door.left)), (Value.bool (x40.door.shut))]) := vt (hA71.at_ 3 rfl _ rfl) rfl
       refine opg_plain rfl rfl (op_call (vs := [(Value.pointer (some ⟨g3, 0, none⟩)), (Value.agg #[(Value.int .i64 (x40.tick)), (Value.int .i64 (x40.door.left)), (Value.bool (x40.door.shut))])]) rfl ca59 rfl (args2 q69 q70) (F59_ok fuel_ (a0 := (⟨x1.1, x3.Wait, a3, (⟨g2⟩ : MRef)⟩ : Control_cutter)) I200 (p2.mono (le105.trans le112)) (Control_place.rv (s := x40)) hx41) (fun v28 w186 S113 O28 le113 I201 hv28 => ?_))
       obtain ⟨rfl, rfl⟩ := hv28
       refine ⟨_, _, rfl, le113, ?_, ?_⟩
       ·
        exact rfl
       ·
        exact I201
      ·
       intro vs78 f w187 S114 X72 le114 hA72 hK78 hI79
       have I202 : Inv w187 S114 (X72) := hI79
       have q71 : f 53 = (Value.int .i64 (x41.1)) := vt (hA72.at_ 4 rfl _ rfl) rfl
       refine opg_plain rfl rfl (op_add (a := x41.1) (b := 1) rfl q71 rfl ?_)
       refine ⟨_, _, rfl, PH.Le.refl _, ?_, ?_⟩
       ·
        exact rfl
       ·
        exact I202
      ·
       intro vs79 f w188 S115 X73 le115 hA73 hK79 hI80
       have I203 : Inv w188 S115 (X73) := hI80
       refine opg_plain rfl rfl (op_move (v := (Value.pointer (some ⟨g3, 0, none⟩))) rfl ((hK79 11 (keep_of rfl)).trans e70) ?_)
       refine ⟨_, _, rfl, PH.Le.refl _, ?_, ?_⟩
       ·
        exact rfl
       ·
        exact I203
      ·
       intro vs80 f w189 S116 X74 le116 hA74 hK80 hI81
       have I204 : Inv w189 S116 (Cells g21 99 #[(Value.int .i64 (s1.2.2.1)), (Value.int .i64 (s1.2.2.2.1)), (Value.bool (s1.2.2.2.2))] :: X74) := hI81
       refine opg_plain rfl rfl (op_loadN (l := [(Value.int .i64 (s1.2.2.1)), (Value.int .i64 (s1.2.2.2.1)), (Value.bool (s1.2.2.2.2))]) rfl sh99 (I204.nth 0 rfl) ((hK80 12 (keep_of rfl)).trans e71) rfl rfl ?_)
       refine ⟨_, _, rfl, PH.Le.refl _, ?_, ?_⟩
       ·
        exact rfl
       ·
        exact I204
      ·
       intro vs81 f w190 S117 X75 le117 hA75 hK81 hI82
       have I205 : Inv w190 S117 (MapB (K := Control_place) (V := Int) g2 (x41.2) :: X75) := hI82
       have q72 : f 55 = (Value.pointer (some ⟨g3, 0, none⟩)) := vt (hA75.at_ 5 rfl _ rfl) rfl
       have q73 : f 56 = (Value.agg #[(Value.int .i64 (s1.2.2.1)), (Value.int .i64 (s1.2.2.2.1)), (Value.bool (s1.2.2.2.2))]) := vt (hA75.at_ 6 rfl _ rfl) rfl
       refine opg_plain rfl rfl (op_call (vs := [(Value.pointer (some ⟨g3, 0, none⟩)), (Value.agg #[(Value.int .i64 (s1.2.2.1)), (Value.int .i64 (s1.2.2.2.1)), (Value.bool (s1.2.2.2.2))])]) rfl ca59 rfl (args2 q72 q73) (F59_ok fuel_ (a0 := (⟨x1.1, x3.Wait, a3, (⟨g2⟩ : MRef)⟩ : Control_cutter)) I205 (p2.mono (le105.trans le117)) (Control_place.rv (s := (⟨s1.2.2.1, (⟨s1.2.2.2.1, s1.2.2.2.2⟩ : Control_door)⟩ : Control_place))) hx42) (fun v29 w191 S118 O29 le118 I206 hv29 => ?_))
       obtain ⟨rfl, rfl⟩ := hv29
       refine ⟨_, _, rfl, le118, ?_, ?_⟩
       ·
        exact rfl
       ·
        exact I206
      ·
       intro vs82 f w192 S119 X76 le119 hA76 hK82 hI83
       have I207 : Inv w192 S119 (X76) := hI83
       have q74 : f 54 = (Value.int .i64 (w64 (x41.1 + 1))) := vt (hA76.at_ 5 rfl _ rfl) rfl
       have q75 : f 57 = (Value.int .i64 (x42.1)) := vt (hA76.at_ 8 rfl _ rfl) rfl
       refine opg_plain rfl rfl (op_eql (a := w64 (x41.1 + 1)) (b := x42.1) rfl q74 q75 ?_)
       refine ⟨_, _, rfl, PH.Le.refl _, ?_, ?_⟩
       ·
        exact rfl
       ·
        exact I207
      ·
       intro vs83 f w193 S120 X77 le120 hA77 hK83 hI84
       have I208 : Inv w193 S120 (X77) := hI84
       have q76 : f 58 = (Value.bool ((w64 (x41.1 + 1)) == x42.1)) := vt (hA77.at_ 9 rfl _ rfl) rfl
       refine opg_plain rfl rfl (op_assign (v := (Value.bool ((w64 (x41.1 + 1)) == x42.1))) rfl q76 ?_)
       refine ⟨_, _, rfl, PH.Le.refl _, ?_, ?_⟩
       ·
        exact rfl
       ·
        exact I208
      ·
       intro vs84 f w194 S121 le121 hF7 hK84 hI85
       have e72 : f 1 = (Value.int .i64 (a1)) := (hK84 1 (keep_all rfl)).trans e68
       have e73 : f 8 = (Value.slice z23 m23 k23) := (hK84 8 (keep_all rfl)).trans e69
       have e74 : f 11 = (Value.pointer (some ⟨g3, 0, none⟩)) := (hK84 11 (keep_all rfl)).trans e70
       have e75 : f 12 = (Value.pointer (some ⟨g21, 0, none⟩)) := (hK84 12 (keep_all rfl)).trans e71
       have I209 : Inv w194 S121 (Cells g21 99 #[(Value.int .i64 (s1.2.2.1)), (Value.int .i64 (s1.2.2.2.1)), (Value.bool (s1.2.2.2.2))] :: MapB (K := Control_place) (V := Int) g2 (x42.2) :: Row (α := Int) 3 (Value.slice z23 m23 k23) (s1.1) :: Fr) := hI85
       have q77 : f 13 = (Value.bool ((w64 (x41.1 + 1)) == x42.1)) := vt (hF7.at_ 10 rfl _ rfl) rfl
       refine wp_seq' ?_
       refine wp_seq' ?_
       refine wp_region' ?_
       refine wl_op rfl (op_move (v := (Value.bool ((w64 (x41.1 + 1)) == x42.1))) rfl q77 ?_)
       refine wl_nil ?_
       rcases ifs h1 with ⟨hc17, h1⟩ | ⟨hc17, h1⟩
       ·
        refine wp_cond_t (b := (w64 (x41.1 + 1)) == x42.1) rfl hc17 ?_
        refine wp_region' ?_
        refine wl_op rfl (op_move (v := (Value.slice z23 m23 k23)) rfl e73 ?_)
        refine wl_op rfl (op_fieldAddr (v := (Value.pointer (some ⟨g21, 0, none⟩))) rfl fa99_0 e75 rfl ?_)
        refine wl_op rfl (op_load1 (c := (Value.int .i64 (s1.2.2.1))) rfl sh3 (I209.nth 0 rfl) rfl rfl ?_)
        refine wl_op rfl (op_buildSlice (vs := [(Value.int .i64 (s1.2.2.1))]) (r := ([s1.2.2.1] : List Int)) rfl Try.underlying34 el3 (parts1 rfl) rfl (by decide) (by decide) ⟨(rv_int' _), trivial⟩ I209 (fun u16 w195 I210 => ?_))
        obtain ⟨z25, m25, k25, e76⟩ := row_form I210
        subst e76
        obtain ⟨x43, hx43, h1⟩ := bnd h1
        refine wl_op rfl (op_append (α := Int) (v := (Value.slice z23 m23 k23)) (u := (Value.slice z25 m25 k25)) rfl rfl Try.underlying34 el3 (by decide) (by decide) rfl rfl (I210.pull 3) (Inv.rowSrc (I210.nth 0 rfl)) hx43 (fun u17 w196 I211 => ?_))
        obtain ⟨z26, m26, k26, e77⟩ := row_form I211
        subst e77
        refine wl_op rfl (op_assign (v := (Value.slice z26 m26 k26)) rfl rfl ?_)
        refine wl_nil ?_
        refine wp_region' ?_
        refine wl_op rfl (op_move (v := (Value.pointer (some ⟨g3, 0, none⟩))) rfl e74 ?_)
        refine wl_op rfl (op_loadN (l := [(Value.int .i64 (s1.2.2.1)), (Value.int .i64 (s1.2.2.2.1)), (Value.bool (s1.2.2.2.2))]) rfl sh99 (I211.nth 2 rfl) e75 rfl rfl ?_)
        refine wl_op rfl (op_move (v := (Value.bool ((w64 (x41.1 + 1)) == x42.1))) rfl q77 ?_)
        obtain ⟨x44, hx44, h1⟩ := bnd h1
        refine wl_op rfl (op_call_v (vs := [(Value.pointer (some ⟨g3, 0, none⟩)), (Value.agg #[(Value.int .i64 (s1.2.2.1)), (Value.int .i64 (s1.2.2.2.1)), (Value.bool (s1.2.2.2.2))]), (Value.bool ((w64 (x41.1 + 1)) == x42.1))]) (r := (Value.agg #[(Value.int .i64 (x44.tick)), (Value.int .i64 (x44.door.left)), (Value.bool (x44.door.shut))])) rfl ca60 rfl (args3 rfl rfl rfl) I211 (fun Fr_ hF_ => F60_ok hF_ (p2.mono (le105.trans le121)) (Control_place.rv (s := (⟨s1.2.2.1, (⟨s1.2.2.2.1, s1.2.2.2.2⟩ : Control_door)⟩ : Control_place))) hx44) (fun w197 I212 => ?_))
        refine wl_op rfl (op_store (v := (Value.agg #[(Value.int .i64 (x44.tick)), (Value.int .i64 (x44.door.left)), (Value.bool (x44.door.shut))])) (cs := #[(Value.int .i64 (s1.2.2.1)), (Value.int .i64 (s1.2.2.2.1)), (Value.bool (s1.2.2.2.2))]) sh99 (I212.pull 2) e75 rfl rfl (Nat.le_of_ble_eq_true rfl) rfl (fun w198 (I213 : Inv w198 S121 (Cells g21 99 #[(Value.int .i64 (x44.tick)), (Value.int .i64 (x44.door.left)), (Value.bool (x44.door.shut))] :: Row (α := Int) 3 (Value.slice z26 m26 k26) (x43) :: Row (α := Int) 3 (Value.slice z25 m25 k25) (([s1.2.2.1] : List Int)) :: MapB (K := Control_place) (V := Int) g2 (x42.2) :: Fr)) => ?_))
        refine wl_nil ?_
        refine wp_seq' ?_
        refine wp_region' ?_
        refine wl_op rfl (op_loadN (l := [(Value.int .i64 (x44.tick)), (Value.int .i64 (x44.door.left)), (Value.bool (x44.door.shut))]) rfl sh99 (I213.nth 0 rfl) e75 rfl rfl ?_)
        refine wl_nil ?_
        refine wp_region' ?_
        refine wl_op rfl (op_alloc (z := (Value.agg #[(Value.int .i64 (0)), (Value.int .i64 (0)), (Value.bool (false))])) rfl I213 zo99 (fun g23 w199 (I214 : Inv w199 S121 (Cells g23 99 #[(Value.int .i64 (0)), (Value.int .i64 (0)), (Value.bool (false))] :: Cells g21 99 #[(Value.int .i64 (x44.tick)), (Value.int .i64 (x44.door.left)), (Value.bool (x44.door.shut))] :: Row (α := Int) 3 (Value.slice z26 m26 k26) (x43) :: Row (α := Int) 3 (Value.slice z25 m25 k25) (([s1.2.2.1] : List Int)) :: MapB (K := Control_place) (V := Int) g2 (x42.2) :: Fr)) => ?_))
        refine wl_op rfl (op_store (v := (Value.agg #[(Value.int .i64 (x44.tick)), (Value.int .i64 (x44.door.left)), (Value.bool (x44.door.shut))])) (cs := #[(Value.int .i64 (0)), (Value.int .i64 (0)), (Value.bool (false))]) sh99 I214 rfl rfl rfl (Nat.le_of_ble_eq_true rfl) rfl (fun w200 (I215 : Inv w200 S121 (Cells g23 99 #[(Value.int .i64 (x44.tick)), (Value.int .i64 (x44.door.left)), (Value.bool (x44.door.shut))] :: Cells g21 99 #[(Value.int .i64 (x44.tick)), (Value.int .i64 (x44.door.left)), (Value.bool (x44.door.shut))] :: Row (α := Int) 3 (Value.slice z26 m26 k26) (x43) :: Row (α := Int) 3 (Value.slice z25 m25 k25) (([s1.2.2.1] : List Int)) :: MapB (K := Control_place) (V := Int) g2 (x42.2) :: Fr)) => ?_))
        refine wl_nil ?_
        obtain rfl := Option.some.inj h1
        exact ⟨_, rfl, _, _, _, _, _, (le105.trans le121), ((((I215.pull 1).drop.pull 2).drop.pull 2).pull 2), e72, rfl, e74, rfl⟩
       ·
        refine wp_cond_f (b := (w64 (x41.1 + 1)) == x42.1) rfl hc17 ?_
        refine wp_skip' ?_
        refine wp_region' ?_
        refine wl_op rfl (op_move (v := (Value.pointer (some ⟨g3, 0, none⟩))) rfl e74 ?_)
        refine wl_op rfl (op_loadN (l := [(Value.int .i64 (s1.2.2.1)), (Value.int .i64 (s1.2.2.2.1)), (Value.bool (s1.2.2.2.2))]) rfl sh99 (I209.nth 0 rfl) e75 rfl rfl ?_)
        refine wl_op rfl (op_move (v := (Value.bool ((w64 (x41.1 + 1)) == x42.1))) rfl q77 ?_)
        obtain ⟨x45, hx45, h1⟩ := bnd h1
        refine wl_op rfl (op_call_v (vs := [(Value.pointer (some ⟨g3, 0, none⟩)), (Value.agg #[(Value.int .i64 (s1.2.2.1)), (Value.int .i64 (s1.2.2.2.1)), (Value.bool (s1.2.2.2.2))]), (Value.bool ((w64 (x41.1 + 1)) == x42.1))]) (r := (Value.agg #[(Value.int .i64 (x45.tick)), (Value.int .i64 (x45.door.left)), (Value.bool (x45.door.shut))])) rfl ca60 rfl (args3 rfl rfl rfl) I209 (fun Fr_ hF_ => F60_ok hF_ (p2.mono (le105.trans le121)) (Control_place.rv (s := (⟨s1.2.2.1, (⟨s1.2.2.2.1, s1.2.2.2.2⟩ : Control_door)⟩ : Control_place))) hx45) (fun w201 I216 => ?_))
        refine wl_op rfl (op_store (v := (Value.agg #[(Value.int .i64 (x45.tick)), (Value.int .i64 (x45.door.left)), (Value.bool (x45.door.shut))])) (cs := #[(Value.int .i64 (s1.2.2.1)), (Value.int .i64 (s1.2.2.2.1)), (Value.bool (s1.2.2.2.2))]) sh99 I216 e75 rfl rfl (Nat.le_of_ble_eq_true rfl) rfl (fun w202 (I217 : Inv w202 S121 (Cells g21 99 #[(Value.int .i64 (x45.tick)), (Value.int .i64 (x45.door.left)), (Value.bool (x45.door.shut))] :: MapB (K := Control_place) (V := Int) g2 (x42.2) :: Row (α := Int) 3 (Value.slice z23 m23 k23) (s1.1) :: Fr)) => ?_))
        refine wl_nil ?_
        refine wp_seq' ?_
        refine wp_region' ?_
        refine wl_op rfl (op_loadN (l := [(Value.int .i64 (x45.tick)), (Value.int .i64 (x45.door.left)), (Value.bool (x45.door.shut))]) rfl sh99 (I217.nth 0 rfl) e75 rfl rfl ?_)
        refine wl_nil ?_
        refine wp_region' ?_
        refine wl_op rfl (op_alloc (z := (Value.agg #[(Value.int .i64 (0)), (Value.int .i64 (0)), (Value.bool (false))])) rfl I217 zo99 (fun g24 w203 (I218 : Inv w203 S121 (Cells g24 99 #[(Value.int .i64 (0)), (Value.int .i64 (0)), (Value.bool (false))] :: Cells g21 99 #[(Value.int .i64 (x45.tick)), (Value.int .i64 (x45.door.left)), (Value.bool (x45.door.shut))] :: MapB (K := Control_place) (V := Int) g2 (x42.2) :: Row (α := Int) 3 (Value.slice z23 m23 k23) (s1.1) :: Fr)) => ?_))
        refine wl_op rfl (op_store (v := (Value.agg #[(Value.int .i64 (x45.tick)), (Value.int .i64 (x45.door.left)), (Value.bool (x45.door.shut))])) (cs := #[(Value.int .i64 (0)), (Value.int .i64 (0)), (Value.bool (false))]) sh99 I218 rfl rfl rfl (Nat.le_of_ble_eq_true rfl) rfl (fun w204 (I219 : Inv w204 S121 (Cells g24 99 #[(Value.int .i64 (x45.tick)), (Value.int .i64 (x45.door.left)), (Value.bool (x45.door.shut))] :: Cells g21 99 #[(Value.int .i64 (x45.tick)), (Value.int .i64 (x45.door.left)), (Value.bool (x45.door.shut))] :: MapB (K := Control_place) (V := Int) g2 (x42.2) :: Row (α := Int) 3 (Value.slice z23 m23 k23) (s1.1) :: Fr)) => ?_))
        refine wl_nil ?_
        obtain rfl := Option.some.inj h1
        exact ⟨_, rfl, _, _, _, _, _, (le105.trans le121), (((I219.pull 1).drop.pull 1).pull 2), e72, e73, e74, rfl⟩
     ·
      refine wp_cond_f (b := decide (s1.2.2.1 < a1)) rfl hc16 ?_
      refine wp_exit' ?_
      obtain rfl := Option.some.inj h1
      obtain rfl := (hout1 _ rfl)
      exact ⟨_, _, _, _, _, le105, (((I191.pull 2).pull 2).pull 2), e68, e69, e70, e71⟩
    ·
     rintro f w ⟨S122, z24, m24, k24, g22, le122, I220, e78, e79, e80, e81⟩
     refine wp_seq' ?_
     refine wp_region' ?_
     refine wl_op rfl (op_move (v := (Value.slice z24 m24 k24)) rfl e79 ?_)
     refine wl_op rfl (op_assign (v := (Value.slice z24 m24 k24)) rfl rfl ?_)
     refine wl_op rfl (op_assign (v := (Value.int .i64 (0))) rfl rfl ?_)
     refine wl_nil ?_
     refine wp_ret' ?_
     obtain rfl := Option.some.inj h
     exact ⟨(Value.tuple #[(Value.slice z24 m24 k24), (Value.int .i64 (0))]), (res2 rfl rfl rfl), _, [Row (α := Int) 3 (Value.slice z24 m24 k24) (out1.1)], ((((le1.trans le2).trans le3).trans le4).trans le122), ((I220.pull 1).drop.pull 1).drop, _, _, _, rfl, rfl⟩
end Go.Proofs.Ytfeomcdhhgeilaa.Pad
