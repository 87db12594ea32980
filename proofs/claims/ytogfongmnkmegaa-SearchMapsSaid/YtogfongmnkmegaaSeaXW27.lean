/- A part of the proof: what the functions of the program compute, shown over the model. -/
import Derived.Test.YtogfongmnkmegaaSeaXP
import Derived.Test.YtogfongmnkmegaaSeaXW1
import Derived.Test.YtogfongmnkmegaaSeaXW4
import Derived.KernelRfl
set_option linter.unusedVariables false
namespace Go.Proofs.Ytogfongmnkmegaa.Pad
open Go Go.Proofs
set_option maxHeartbeats 4000000 in
set_option maxRecDepth 100000 in
theorem F38_ok {w : World} {S : PH} {Fr : List HP} {a0 : Graph} {v0 : Value} {a1 : (List Int)} {v1 : Value} {r : Int} (hI : Inv w S (Fr)) (h0_ : RV S v0 a0) (h1_ : RV S v1 a1) (h : F38 a0 a1 = some r) :
    Calls Try.prog 38 [v0, v1].toArray w (DoneV S Fr (Value.int .i64 (r))) := by
 unfold F38 at h
 obtain ⟨c1, c2, e1, r1, r2⟩ := Graph.inv h0_
 subst e1
 obtain ⟨z1, m1, k1, e2⟩ := rv_form r1
 subst e2
 obtain ⟨z2, m2, k2, e3⟩ := rv_form r2
 subst e3
 obtain ⟨z3, m3, k3, e4⟩ := rv_form h1_
 subst e4
 refine calls_enter (n := 14) (vs := [(Value.agg #[(Value.slice z1 m1 k1), (Value.slice z2 m2 k2)]), (Value.slice z3 m3 k3)]) Try.func38 rfl rfl rfl ?_
 refine wp_seq' ?_
 refine wp_region' ?_
 refine wl_op rfl (op_box (v := (Value.agg #[(Value.slice z1 m1 k1), (Value.slice z2 m2 k2)])) rfl hI rfl (fun g1 w1 I1 => ?_))
 obtain ⟨S1, le1, I2, p1⟩ := Inv.boxFreeze (x := a0) I1 (Graph.rv (s := a0) r1 r2)
 refine wl_op rfl (op_assign (v := (Value.int .i64 (0))) rfl rfl ?_)
 refine wl_nil ?_
 refine wp_seq' ?_
 refine wp_region' ?_
 refine wl_op rfl (op_load (v := (Value.pointer (some ⟨g1, 0, none⟩))) (e := a0) rfl sh25 rfl (p1.at_ I2) (fun u1 hu1 => ?_))
 obtain ⟨c3, c4, e5, r3, r4⟩ := Graph.inv hu1
 subst e5
 obtain ⟨z4, m4, k4, e6⟩ := rv_form r3
 subst e6
 obtain ⟨z5, m5, k5, e7⟩ := rv_form r4
 subst e7
 refine wl_op rfl (op_move (v := (Value.slice z3 m3 k3)) rfl rfl ?_)
 obtain ⟨x1, hx1, h⟩ := bnd h
 refine wl_op rfl (op_call (vs := [(Value.agg #[(Value.slice z4 m4 k4), (Value.slice z5 m5 k5)]), (Value.slice z3 m3 k3)]) rfl ca57 rfl (args2 rfl rfl) (F57_ok I2 (Graph.rv (s := a0) r3 r4) (h1_.mono le1) hx1) (fun v1 w2 S2 O1 le2 I3 hv1 => ?_))
 obtain ⟨c5, rfl, rfl, r5⟩ := hv1
 obtain ⟨c6, c7, e8, r6, r7⟩ := Search_view.inv r5
 subst e8
 obtain ⟨z6, m6, k6, e9⟩ := rv_form r6
 subst e9
 obtain ⟨z7, m7, k7, e10⟩ := rv_form r7
 subst e10
 refine wl_op rfl (op_move (v := (Value.tuple #[(Value.agg #[(Value.slice z6 m6 k6), (Value.slice z7 m7 k7)]), (Value.int .i64 (x1.2))])) rfl rfl ?_)
 refine wl_op rfl (op_extract (v := (Value.agg #[(Value.slice z6 m6 k6), (Value.slice z7 m7 k7)])) rfl rfl rfl ?_)
 refine wl_op rfl (op_extract (v := (Value.int .i64 (x1.2))) rfl rfl rfl ?_)
 refine wl_op rfl (op_alloc (z := (Value.agg #[(Value.slice none 0 0), (Value.slice none 0 0)])) rfl I3 zo64 (fun g2 w3 (I4 : Inv w3 S2 (Cells g2 64 #[(Value.slice none 0 0), (Value.slice none 0 0)] :: Fr)) => ?_))
 refine wl_op rfl (op_store (v := (Value.agg #[(Value.slice z6 m6 k6), (Value.slice z7 m7 k7)])) (cs := #[(Value.slice none 0 0), (Value.slice none 0 0)]) sh64 I4 rfl rfl rfl (Nat.le_of_ble_eq_true rfl) rfl (fun w4 (I5 : Inv w4 S2 (Cells g2 64 #[(Value.slice z6 m6 k6), (Value.slice z7 m7 k7)] :: Fr)) => ?_))
 refine wl_op rfl (op_assign (v := (Value.int .i64 (x1.2))) rfl rfl ?_)
 refine wl_nil ?_
 refine wp_seq' ?_
 refine wp_region' ?_
 refine wl_op rfl (op_move (v := (Value.int .i64 (x1.2))) rfl rfl ?_)
 refine wl_op rfl (op_assign (v := (Value.int .i64 (x1.2))) rfl rfl ?_)
 refine wl_nil ?_
 refine wp_ret' ?_
 obtain rfl := Option.some.inj h
 exact ⟨(Value.int .i64 (x1.2)), (res1 rfl rfl), _, [], (le1.trans le2), (I5).drop, rfl, rfl⟩

set_option maxHeartbeats 4000000 in
set_option maxRecDepth 100000 in
theorem F64_ok {w : World} {S : PH} {Fr : List HP} {a0 : Graph} {v0 : Value} {a1 : (List Int)} {v1 : Value} {a2 : Int} {a3 : Int} {r : Bool} (hI : Inv w S (Fr)) (h0_ : RV S v0 a0) (h1_ : RV S v1 a1) (h : F64 a0 a1 a2 a3 = some r) :
    Calls Try.prog 64 [v0, v1, (Value.int .i64 (a2)), (Value.int .i64 (a3))].toArray w (DoneV S Fr (Value.bool (r))) := by
 unfold F64 at h
 obtain ⟨c1, c2, e1, r1, r2⟩ := Graph.inv h0_
 subst e1
 obtain ⟨z1, m1, k1, e2⟩ := rv_form r1
 subst e2
 obtain ⟨z2, m2, k2, e3⟩ := rv_form r2
 subst e3
 obtain ⟨z3, m3, k3, e4⟩ := rv_form h1_
 subst e4
 refine calls_enter (n := 34) (vs := [(Value.agg #[(Value.slice z1 m1 k1), (Value.slice z2 m2 k2)]), (Value.slice z3 m3 k3), (Value.int .i64 (a2)), (Value.int .i64 (a3))]) Try.func64 rfl rfl rfl ?_
 refine wp_seq' ?_
 refine wp_region' ?_
 refine wl_op rfl (op_box (v := (Value.agg #[(Value.slice z1 m1 k1), (Value.slice z2 m2 k2)])) rfl hI rfl (fun g1 w1 I1 => ?_))
 obtain ⟨S1, le1, I2, p1⟩ := Inv.boxFreeze (x := a0) I1 (Graph.rv (s := a0) r1 r2)
 refine wl_op rfl (op_assign (v := (Value.bool (false))) rfl rfl ?_)
 refine wl_nil ?_
 refine wp_seq' ?_
 obtain ⟨x1, hx1, h⟩ := bnd h
 rcases ifs h with ⟨hc1, h⟩ | ⟨hc1, h⟩
 ·
  obtain ⟨x2, hx2, h⟩ := bnd h
  obtain ⟨x3, hx3, h⟩ := bnd h
  obtain ⟨x4, hx4, h⟩ := bnd h
  refine wp_draw (sps := [⟨some 9, [], [0], fun vs_ T_ => fr0 vs_ 0 = (Value.slice z3 m3 k3), [], [], [], fun _ h_ => h_⟩, ⟨some 10, [], [1], fun vs_ T_ => fr0 vs_ 0 = (Value.int .i64 (a2)), [], [], [], fun _ h_ => h_⟩, ⟨some 11, [0, 1], [2], fun vs_ T_ => fr0 vs_ 0 = (elemPtr (Value.slice z3 m3 k3) (a2) (Enc.sz Int)), [], [], [], fun _ h_ => h_⟩, ⟨some 12, [0, 1, 2], [3], fun vs_ T_ => fr0 vs_ 0 = (Value.int .i64 (x1)), [], [], [], fun _ h_ => h_⟩, ⟨some 13, [0, 1, 2, 3], [4], fun vs_ T_ => fr0 vs_ 0 = (Value.bool (decide (0 < x1))), [], [], [], fun _ h_ => h_⟩, ⟨some 14, [0, 1, 2, 3, 4], [5], fun vs_ T_ => fr0 vs_ 0 = (Value.bool (decide (0 < x1))), [], [], [], fun _ h_ => h_⟩, ⟨some 15, [0, 1, 2, 3, 4, 5], [6], fun vs_ T_ => fr0 vs_ 0 = (Value.slice z3 m3 k3), [], [], [], fun _ h_ => h_⟩, ⟨some 16, [0, 1, 2, 3, 4, 5], [7], fun vs_ T_ => fr0 vs_ 0 = (fieldPtr (Value.pointer (some ⟨g1, 0, none⟩)) 1), [], [], [], fun _ h_ => h_⟩, ⟨some 17, [0, 1, 2, 3, 4, 5, 7], [8], fun vs_ T_ => RV T_ (fr0 vs_ 0) a0.Edges, [], [], [], fun hle_ h_ => h_.mono hle_⟩, ⟨some 18, [0, 1, 2, 3, 4, 5], [9], fun vs_ T_ => fr0 vs_ 0 = (Value.int .i64 (a2)), [], [], [], fun _ h_ => h_⟩, ⟨some 19, [0, 1, 2, 3, 4, 5, 7, 8, 9], [10, 8], fun vs_ T_ => fr0 vs_ 0 = (elemPtr (fr0 vs_ 1) (a2) (Enc.sz (List Edge))), [], [], [], fun _ h_ => h_⟩, ⟨some 20, [0, 1, 2, 3, 4, 5, 7, 8, 9, 10], [11], fun vs_ T_ => RV T_ (fr0 vs_ 0) x2, [], [], [], fun hle_ h_ => h_.mono hle_⟩, ⟨some 21, [0, 1, 2, 3, 4, 5], [12], fun vs_ T_ => fr0 vs_ 0 = (Value.int .i64 (a3)), [], [], [], fun _ h_ => h_⟩, ⟨some 22, [0, 1, 2, 3, 4, 5, 7, 8, 9, 10, 11, 12], [13, 11], fun vs_ T_ => fr0 vs_ 0 = (elemPtr (fr0 vs_ 1) (a3) (Enc.sz Edge)), [], [], [], fun _ h_ => h_⟩, ⟨some 23, [0, 1, 2, 3, 4, 5, 7, 8, 9, 10, 11, 12, 13], [14, 11], fun vs_ T_ => fr0 vs_ 0 = (fieldPtr (elemPtr (fr0 vs_ 1) (a3) (Enc.sz Edge)) 3), [], [], [], fun _ h_ => h_⟩, ⟨some 24, [0, 1, 2, 3, 4, 5, 7, 8, 9, 10, 11, 12, 13, 14], [15], fun vs_ T_ => fr0 vs_ 0 = (Value.int .i64 (x3.To)), [], [], [], fun _ h_ => h_⟩, ⟨some 25, [0, 1, 2, 3, 4, 5, 6, 7, 8, 9, 10, 11, 12, 13, 14, 15], [16], fun vs_ T_ => fr0 vs_ 0 = (elemPtr (Value.slice z3 m3 k3) (x3.To) (Enc.sz Int)), [], [], [], fun _ h_ => h_⟩, ⟨some 26, [0, 1, 2, 3, 4, 5, 6, 7, 8, 9, 10, 11, 12, 13, 14, 15, 16], [17], fun vs_ T_ => fr0 vs_ 0 = (Value.int .i64 (x4)), [], [], [], fun _ h_ => h_⟩, ⟨some 27, [0, 1, 2, 3, 4, 5], [18], fun vs_ T_ => fr0 vs_ 0 = (Value.slice z3 m3 k3), [], [], [], fun _ h_ => h_⟩, ⟨some 28, [0, 1, 2, 3, 4, 5], [19], fun vs_ T_ => fr0 vs_ 0 = (Value.int .i64 (a2)), [], [], [], fun _ h_ => h_⟩, ⟨some 29, [0, 1, 2, 3, 4, 5, 18, 19], [20], fun vs_ T_ => fr0 vs_ 0 = (elemPtr (Value.slice z3 m3 k3) (a2) (Enc.sz Int)), [], [], [], fun _ h_ => h_⟩, ⟨some 30, [0, 1, 2, 3, 4, 5, 18, 19, 20], [21], fun vs_ T_ => fr0 vs_ 0 = (Value.int .i64 (x1)), [], [], [], fun _ h_ => h_⟩, ⟨some 31, [0, 1, 2, 3, 4, 5, 18, 19, 20, 21], [22], fun vs_ T_ => fr0 vs_ 0 = (Value.int .i64 (w64 (x1 - 1))), [], [], [], fun _ h_ => h_⟩, ⟨some 32, [0, 1, 2, 3, 4, 5, 6, 7, 8, 9, 10, 11, 12, 13, 14, 15, 16, 17, 18, 19, 20, 21, 22], [23], fun vs_ T_ => fr0 vs_ 0 = (Value.bool (x4 == (w64 (x1 - 1)))), [], [], [], fun _ h_ => h_⟩, ⟨some 33, [0, 1, 2, 3, 4, 5, 6, 7, 8, 9, 10, 11, 12, 13, 14, 15, 16, 17, 18, 19, 20, 21, 22, 23], [24], fun vs_ T_ => fr0 vs_ 0 = (Value.bool (x4 == (w64 (x1 - 1)))), [], [], [], fun _ h_ => h_⟩, ⟨some 8, [0, 1, 2, 3, 4, 5, 6, 7, 8, 9, 10, 11, 12, 13, 14, 15, 16, 17, 18, 19, 20, 21, 22, 23, 24], [25], fun vs_ T_ => fr0 vs_ 0 = (Value.bool (x4 == (w64 (x1 - 1)))), [], [], [], fun _ h_ => h_⟩]) (tks := []) (O := Fr) rfl (by kernel_rfl) I2 ⟨?_, ?_, ?_, ?_, ?_, ?_, ?_, ?_, ?_, ?_, ?_, ?_, ?_, ?_, ?_, ?_, ?_, ?_, ?_, ?_, ?_, ?_, ?_, ?_, ?_, ?_, trivial⟩ ?_
  ·
   intro vs1 f w2 S2 X1 le2 hA1 hK1 hI1
   have I3 : Inv w2 S2 (X1) := hI1
   refine opg_plain rfl rfl (op_move (v := (Value.slice z3 m3 k3)) rfl (hK1 1 (keep_of rfl)) ?_)
   refine ⟨_, _, rfl, PH.Le.refl _, ?_, ?_⟩
   ·
    exact rfl
   ·
    exact I3
  ·
   intro vs2 f w3 S3 X2 le3 hA2 hK2 hI2
   have I4 : Inv w3 S3 (X2) := hI2
   refine opg_plain rfl rfl (op_move (v := (Value.int .i64 (a2))) rfl (hK2 2 (keep_of rfl)) ?_)
   refine ⟨_, _, rfl, PH.Le.refl _, ?_, ?_⟩
   ·
    exact rfl
   ·
    exact I4
  ·
   intro vs3 f w4 S4 X3 le4 hA3 hK3 hI3
   have I5 : Inv w4 S4 (X3) := hI3
   have q1 : f 9 = (Value.slice z3 m3 k3) := vt (hA3.at_ 0 rfl _ rfl) rfl
   have q2 : f 10 = (Value.int .i64 (a2)) := vt (hA3.at_ 1 rfl _ rfl) rfl
   refine opg_plain rfl rfl (op_indexAddr_rv (v := (Value.slice z3 m3 k3)) (i := a2) (e := x1) rfl Try.underlying26 sh3 q1 (h1_.mono (le1.trans le4)) q2 hx1 ?_)
   refine ⟨_, _, rfl, PH.Le.refl _, ?_, ?_⟩
   ·
    exact rfl
   ·
    exact I5
  ·
   intro vs4 f w5 S5 X4 le5 hA4 hK4 hI4
   have I6 : Inv w5 S5 (X4) := hI4
   have q3 : f 11 = (elemPtr (Value.slice z3 m3 k3) (a2) (Enc.sz Int)) := vt (hA4.at_ 2 rfl _ rfl) rfl
   refine opg_plain rfl rfl (op_load_int (v := (elemPtr (Value.slice z3 m3 k3) (a2) (Enc.sz Int))) (e := x1) rfl sh3 q3 ((h1_.mono (le1.trans le5)).elem I6.in_ hx1) ?_)
   refine ⟨_, _, rfl, PH.Le.refl _, ?_, ?_⟩
   ·
    exact rfl
   ·
    exact I6
  ·
   intro vs5 f w6 S6 X5 le6 hA5 hK5 hI5
   have I7 : Inv w6 S6 (X5) := hI5
   have q4 : f 12 = (Value.int .i64 (x1)) := vt (hA5.at_ 3 rfl _ rfl) rfl
   refine opg_plain rfl rfl (op_gtr (a := x1) (b := 0) rfl q4 rfl ?_)
   refine ⟨_, _, rfl, PH.Le.refl _, ?_, ?_⟩
   ·
    exact rfl
   ·
    exact I7
  ·
   intro vs6 f w7 S7 X6 le7 hA6 hK6 hI6
   have I8 : Inv w7 S7 (X6) := hI6
   have q5 : f 13 = (Value.bool (decide (0 < x1))) := vt (hA6.at_ 4 rfl _ rfl) rfl
   refine opg_plain rfl rfl (op_move (v := (Value.bool (decide (0 < x1)))) rfl q5 ?_)
   refine ⟨_, _, rfl, PH.Le.refl _, ?_, ?_⟩
   ·
    exact rfl
   ·
    exact I8
  ·
   intro vs7 f w8 S8 X7 le8 hA7 hK7 hI7
   have I9 : Inv w8 S8 (X7) := hI7
   have q6 : f 14 = (Value.bool (decide (0 < x1))) := vt (hA7.at_ 5 rfl _ rfl) rfl
   refine opg_taken (c := decide (0 < x1)) rfl rfl rfl rfl q6 hc1 (op_move (v := (Value.slice z3 m3 k3)) rfl (hK7 1 (keep_of rfl)) ?_)
   refine ⟨_, _, rfl, PH.Le.refl _, ?_, ?_⟩
   ·
    exact rfl
   ·
    exact I9
  ·
   intro vs8 f w9 S9 X8 le9 hA8 hK8 hI8
   have I10 : Inv w9 S9 (X8) := hI8
   have q7 : f 14 = (Value.bool (decide (0 < x1))) := vt (hA8.at_ 5 rfl _ rfl) rfl
   refine opg_taken (c := decide (0 < x1)) rfl rfl rfl rfl q7 hc1 (op_fieldAddr_t (v := (Value.pointer (some ⟨g1, 0, none⟩))) rfl fa25_1 (hK8 4 (keep_of rfl)) ((p1.mono le9).at_ I10) ?_)
   refine ⟨_, _, rfl, PH.Le.refl _, ?_, ?_⟩
   ·
    exact rfl
   ·
    exact I10
  ·
   intro vs9 f w10 S10 X9 le10 hA9 hK9 hI9
   have I11 : Inv w10 S10 (X9) := hI9
   have q8 : f 14 = (Value.bool (decide (0 < x1))) := vt (hA9.at_ 5 rfl _ rfl) rfl
   have q9 : f 16 = (fieldPtr (Value.pointer (some ⟨g1, 0, none⟩)) 1) := vt (hA9.at_ 6 rfl _ rfl) rfl
   refine opg_taken (c := decide (0 < x1)) rfl rfl rfl rfl q8 hc1 (op_load (v := (fieldPtr (Value.pointer (some ⟨g1, 0, none⟩)) 1)) (e := a0.Edges) rfl sh23 q9 (((p1.mono le10).at_ I11).fld Graph.fld1) (fun u3 hu3 => ?_))
   obtain ⟨z4, m4, k4, e5⟩ := rv_form hu3
   subst e5
   refine ⟨_, _, rfl, PH.Le.refl _, ?_, ?_⟩
   ·
    exact hu3
   ·
    exact I11
  ·
   intro vs10 f w11 S11 X10 le11 hA10 hK10 hI10
   have I12 : Inv w11 S11 (X10) := hI10
   have q10 : f 14 = (Value.bool (decide (0 < x1))) := vt (hA10.at_ 5 rfl _ rfl) rfl
   refine opg_taken (c := decide (0 < x1)) rfl rfl rfl rfl q10 hc1 (op_move (v := (Value.int .i64 (a2))) rfl (hK10 2 (keep_of rfl)) ?_)
   refine ⟨_, _, rfl, PH.Le.refl _, ?_, ?_⟩
   ·
    exact rfl
   ·
    exact I12
  ·
   intro vs11 f w12 S12 X11 le12 hA11 hK11 hI11
   have I13 : Inv w12 S12 (X11) := hI11
   have q11 : f 14 = (Value.bool (decide (0 < x1))) := vt (hA11.at_ 5 rfl _ rfl) rfl
   have q12 : f 17 = vs11 8 := (hA11.at_ 7 rfl _ rfl).1 _ rfl
   have r3 : RV S12 (vs11 8) a0.Edges := (hA11.at_ 7 rfl _ rfl).2
   obtain ⟨u4, hu4⟩ : ∃ u, vs11 8 = u := ⟨_, rfl⟩
   rw [hu4] at q12 r3
   obtain ⟨z5, m5, k5, e6⟩ := rv_form r3
   subst e6
   have q13 : f 18 = (Value.int .i64 (a2)) := vt (hA11.at_ 8 rfl _ rfl) rfl
   refine opg_taken (c := decide (0 < x1)) rfl rfl rfl rfl q11 hc1 (op_indexAddr_rv (v := (Value.slice z5 m5 k5)) (i := a2) (e := x2) rfl Try.underlying23 sh40 q12 r3 q13 hx2 ?_)
   refine ⟨_, _, rfl, PH.Le.refl _, ?_, ?_⟩
   ·
    show (elemPtr (Value.slice z5 m5 k5) (a2) (Enc.sz (List Edge))) = (elemPtr (vs11 8) (a2) (Enc.sz (List Edge)))
    simp only [hu4] <;> rfl
   ·
    exact I13
  ·
   intro vs12 f w13 S13 X12 le13 hA12 hK12 hI12
   have I14 : Inv w13 S13 (X12) := hI12
   have q14 : f 14 = (Value.bool (decide (0 < x1))) := vt (hA12.at_ 5 rfl _ rfl) rfl
   have q15 : f 17 = vs12 8 := (hA12.at_ 7 rfl _ rfl).1 _ rfl
   have r4 : RV S13 (vs12 8) a0.Edges := (hA12.at_ 7 rfl _ rfl).2
   obtain ⟨u5, hu5⟩ : ∃ u, vs12 8 = u := ⟨_, rfl⟩
   rw [hu5] at q15 r4
   obtain ⟨z6, m6, k6, e7⟩ := rv_form r4
   subst e7
   have q16 : f 18 = (Value.int .i64 (a2)) := vt (hA12.at_ 8 rfl _ rfl) rfl
   have q17 : f 19 = (elemPtr (vs12 8) (a2) (Enc.sz (List Edge))) := vt (hA12.at_ 9 rfl _ rfl) rfl
   simp only [hu5] at q17
   have q17 : f 19 = (elemPtr (Value.slice z6 m6 k6) (a2) (Enc.sz (List Edge))) := q17
   refine opg_taken (c := decide (0 < x1)) rfl rfl rfl rfl q14 hc1 (op_load (v := (elemPtr (Value.slice z6 m6 k6) (a2) (Enc.sz (List Edge)))) (e := x2) rfl sh40 q17 (r4.elem I14.in_ hx2) (fun u6 hu6 => ?_))
   obtain ⟨z7, m7, k7, e8⟩ := rv_form hu6
   subst e8
   refine ⟨_, _, rfl, PH.Le.refl _, ?_, ?_⟩
   ·
    exact hu6
   ·
    exact I14
  ·
   intro vs13 f w14 S14 X13 le14 hA13 hK13 hI13
   have I15 : Inv w14 S14 (X13) := hI13
   have q18 : f 14 = (Value.bool (decide (0 < x1))) := vt (hA13.at_ 5 rfl _ rfl) rfl
   refine opg_taken (c := decide (0 < x1)) rfl rfl rfl rfl q18 hc1 (op_move (v := (Value.int .i64 (a3))) rfl (hK13 3 (keep_of rfl)) ?_)
   refine ⟨_, _, rfl, PH.Le.refl _, ?_, ?_⟩
   ·
    exact rfl
   ·
    exact I15
  ·
   intro vs14 f w15 S15 X14 le15 hA14 hK14 hI14
   have I16 : Inv w15 S15 (X14) := hI14
   have q19 : f 14 = (Value.bool (decide (0 < x1))) := vt (hA14.at_ 5 rfl _ rfl) rfl
   have q20 : f 20 = vs14 11 := (hA14.at_ 10 rfl _ rfl).1 _ rfl
   have r5 : RV S15 (vs14 11) x2 := (hA14.at_ 10 rfl _ rfl).2
   obtain ⟨u7, hu7⟩ : ∃ u, vs14 11 = u := ⟨_, rfl⟩
   rw [hu7] at q20 r5
   obtain ⟨z8, m8, k8, e9⟩ := rv_form r5
   subst e9
   have q21 : f 21 = (Value.int .i64 (a3)) := vt (hA14.at_ 11 rfl _ rfl) rfl
   refine opg_taken (c := decide (0 < x1)) rfl rfl rfl rfl q19 hc1 (op_indexAddr_rv (v := (Value.slice z8 m8 k8)) (i := a3) (e := x3) rfl Try.underlying40 sh44 q20 r5 q21 hx3 ?_)
   refine ⟨_, _, rfl, PH.Le.refl _, ?_, ?_⟩
   ·
    show (elemPtr (Value.slice z8 m8 k8) (a3) (Enc.sz Edge)) = (elemPtr (vs14 11) (a3) (Enc.sz Edge))
    simp only [hu7] <;> rfl
   ·
    exact I16
  ·
   intro vs15 f w16 S16 X15 le16 hA15 hK15 hI15
   have I17 : Inv w16 S16 (X15) := hI15
   have q22 : f 14 = (Value.bool (decide (0 < x1))) := vt (hA15.at_ 5 rfl _ rfl) rfl
   have q23 : f 20 = vs15 11 := (hA15.at_ 10 rfl _ rfl).1 _ rfl
   have r6 : RV S16 (vs15 11) x2 := (hA15.at_ 10 rfl _ rfl).2
   obtain ⟨u8, hu8⟩ : ∃ u, vs15 11 = u := ⟨_, rfl⟩
   rw [hu8] at q23 r6
   obtain ⟨z9, m9, k9, e10⟩ := rv_form r6
   subst e10
   have q24 : f 21 = (Value.int .i64 (a3)) := vt (hA15.at_ 11 rfl _ rfl) rfl
   have q25 : f 22 = (elemPtr (vs15 11) (a3) (Enc.sz Edge)) := vt (hA15.at_ 12 rfl _ rfl) rfl
   simp only [hu8] at q25
   have q25 : f 22 = (elemPtr (Value.slice z9 m9 k9) (a3) (Enc.sz Edge)) := q25
   refine opg_taken (c := decide (0 < x1)) rfl rfl rfl rfl q22 hc1 (op_fieldAddr_t (v := (elemPtr (Value.slice z9 m9 k9) (a3) (Enc.sz Edge))) rfl fa44_1 q25 (r6.elem I17.in_ hx3) ?_)
   refine ⟨_, _, rfl, PH.Le.refl _, ?_, ?_⟩
   ·
    show (fieldPtr (elemPtr (Value.slice z9 m9 k9) (a3) (Enc.sz Edge)) 3) = (fieldPtr (elemPtr (vs15 11) (a3) (Enc.sz Edge)) 3)
    simp only [hu8] <;> rfl
   ·
    exact I17
  ·
   intro vs16 f w17 S17 X16 le17 hA16 hK16 hI16
   have I18 : Inv w17 S17 (X16) := hI16
   have q26 : f 14 = (Value.bool (decide (0 < x1))) := vt (hA16.at_ 5 rfl _ rfl) rfl
   have q27 : f 20 = vs16 11 := (hA16.at_ 10 rfl _ rfl).1 _ rfl
   have r7 : RV S17 (vs16 11) x2 := (hA16.at_ 10 rfl _ rfl).2
   obtain ⟨u9, hu9⟩ : ∃ u, vs16 11 = u := ⟨_, rfl⟩
   rw [hu9] at q27 r7
   obtain ⟨z10, m10, k10, e11⟩ := rv_form r7
   subst e11
   have q28 : f 21 = (Value.int .i64 (a3)) := vt (hA16.at_ 11 rfl _ rfl) rfl
   have q29 : f 22 = (elemPtr (vs16 11) (a3) (Enc.sz Edge)) := vt (hA16.at_ 12 rfl _ rfl) rfl
   simp only [hu9] at q29
   have q29 : f 22 = (elemPtr (Value.slice z10 m10 k10) (a3) (Enc.sz Edge)) := q29
   have q30 : f 23 = (fieldPtr (elemPtr (vs16 11) (a3) (Enc.sz Edge)) 3) := vt (hA16.at_ 13 rfl _ rfl) rfl
   simp only [hu9] at q30
   have q30 : f 23 = (fieldPtr (elemPtr (Value.slice z10 m10 k10) (a3) (Enc.sz Edge)) 3) := q30
   refine opg_taken (c := decide (0 < x1)) rfl rfl rfl rfl q26 hc1 (op_load_int (v := (fieldPtr (elemPtr (Value.slice z10 m10 k10) (a3) (Enc.sz Edge)) 3)) (e := x3.To) rfl sh3 q30 ((r7.elem I18.in_ hx3).fld Edge.fld1) ?_)
   refine ⟨_, _, rfl, PH.Le.refl _, ?_, ?_⟩
   ·
    exact rfl
   ·
    exact I18
  ·
   intro vs17 f w18 S18 X17 le18 hA17 hK17 hI17
   have I19 : Inv w18 S18 (X17) := hI17
   have q31 : f 14 = (Value.bool (decide (0 < x1))) := vt (hA17.at_ 5 rfl _ rfl) rfl
   have q32 : f 15 = (Value.slice z3 m3 k3) := vt (hA17.at_ 6 rfl _ rfl) rfl
   have q33 : f 24 = (Value.int .i64 (x3.To)) := vt (hA17.at_ 15 rfl _ rfl) rfl
   refine opg_taken (c := decide (0 < x1)) rfl rfl rfl rfl q31 hc1 (op_indexAddr_rv (v := (Value.slice z3 m3 k3)) (i := x3.To) (e := x4) rfl Try.underlying26 sh3 q32 (h1_.mono (le1.trans le18)) q33 hx4 ?_)
   refine ⟨_, _, rfl, PH.Le.refl _, ?_, ?_⟩
   ·
    exact rfl
   ·
    exact I19
  ·
   intro vs18 f w19 S19 X18 le19 hA18 hK18 hI18
   have I20 : Inv w19 S19 (X18) := hI18
   have q34 : f 14 = (Value.bool (decide (0 < x1))) := vt (hA18.at_ 5 rfl _ rfl) rfl
   have q35 : f 25 = (elemPtr (Value.slice z3 m3 k3) (x3.To) (Enc.sz Int)) := vt (hA18.at_ 16 rfl _ rfl) rfl
   refine opg_taken (c := decide (0 < x1)) rfl rfl rfl rfl q34 hc1 (op_load_int (v := (elemPtr (Value.slice z3 m3 k3) (x3.To) (Enc.sz Int))) (e := x4) rfl sh3 q35 ((h1_.mono (le1.trans le19)).elem I20.in_ hx4) ?_)
   refine ⟨_, _, rfl, PH.Le.refl _, ?_, ?_⟩
   ·
    exact rfl
   ·
    exact I20
  ·
   intro vs19 f w20 S20 X19 le20 hA19 hK19 hI19
   have I21 : Inv w20 S20 (X19) := hI19
   have q36 : f 14 = (Value.bool (decide (0 < x1))) := vt (hA19.at_ 5 rfl _ rfl) rfl
   refine opg_taken (c := decide (0 < x1)) rfl rfl rfl rfl q36 hc1 (op_move (v := (Value.slice z3 m3 k3)) rfl (hK19 1 (keep_of rfl)) ?_)
   refine ⟨_, _, rfl, PH.Le.refl _, ?_, ?_⟩
   ·
    exact rfl
   ·
    exact I21
  ·
   intro vs20 f w21 S21 X20 le21 hA20 hK20 hI20
   have I22 : Inv w21 S21 (X20) := hI20
   have q37 : f 14 = (Value.bool (decide (0 < x1))) := vt (hA20.at_ 5 rfl _ rfl) rfl
   refine opg_taken (c := decide (0 < x1)) rfl rfl rfl rfl q37 hc1 (op_move (v := (Value.int .i64 (a2))) rfl (hK20 2 (keep_of rfl)) ?_)
   refine ⟨_, _, rfl, PH.Le.refl _, ?_, ?_⟩
   ·
    exact rfl
   ·
    exact I22
  ·
   intro vs21 f w22 S22 X21 le22 hA21 hK21 hI21
   have I23 : Inv w22 S22 (X21) := hI21
   have q38 : f 14 = (Value.bool (decide (0 < x1))) := vt (hA21.at_ 5 rfl _ rfl) rfl
   have q39 : f 27 = (Value.slice z3 m3 k3) := vt (hA21.at_ 6 rfl _ rfl) rfl
   have q40 : f 28 = (Value.int .i64 (a2)) := vt (hA21.at_ 7 rfl _ rfl) rfl
   refine opg_taken (c := decide (0 < x1)) rfl rfl rfl rfl q38 hc1 (op_indexAddr_rv (v := (Value.slice z3 m3 k3)) (i := a2) (e := x1) rfl Try.underlying26 sh3 q39 (h1_.mono (le1.trans le22)) q40 hx1 ?_)
   refine ⟨_, _, rfl, PH.Le.refl _, ?_, ?_⟩
   ·
    exact rfl
   ·
    exact I23
  ·
   intro vs22 f w23 S23 X22 le23 hA22 hK22 hI22
   have I24 : Inv w23 S23 (X22) := hI22
   have q41 : f 14 = (Value.bool (decide (0 < x1))) := vt (hA22.at_ 5 rfl _ rfl) rfl
   have q42 : f 29 = (elemPtr (Value.slice z3 m3 k3) (a2) (Enc.sz Int)) := vt (hA22.at_ 8 rfl _ rfl) rfl
   refine opg_taken (c := decide (0 < x1)) rfl rfl rfl rfl q41 hc1 (op_load_int (v := (elemPtr (Value.slice z3 m3 k3) (a2) (Enc.sz Int))) (e := x1) rfl sh3 q42 ((h1_.mono (le1.trans le23)).elem I24.in_ hx1) ?_)
   refine ⟨_, _, rfl, PH.Le.refl _, ?_, ?_⟩
   ·
    exact rfl
   ·
    exact I24
  ·
   intro vs23 f w24 S24 X23 le24 hA23 hK23 hI23
   have I25 : Inv w24 S24 (X23) := hI23
   have q43 : f 14 = (Value.bool (decide (0 < x1))) := vt (hA23.at_ 5 rfl _ rfl) rfl
   have q44 : f 30 = (Value.int .i64 (x1)) := vt (hA23.at_ 9 rfl _ rfl) rfl
   refine opg_taken (c := decide (0 < x1)) rfl rfl rfl rfl q43 hc1 (op_sub (a := x1) (b := 1) rfl q44 rfl ?_)
   refine ⟨_, _, rfl, PH.Le.refl _, ?_, ?_⟩
   ·
    exact rfl
   ·
    exact I25
  ·
   intro vs24 f w25 S25 X24 le25 hA24 hK24 hI24
   have I26 : Inv w25 S25 (X24) := hI24
   have q45 : f 14 = (Value.bool (decide (0 < x1))) := vt (hA24.at_ 5 rfl _ rfl) rfl
   have q46 : f 26 = (Value.int .i64 (x4)) := vt (hA24.at_ 17 rfl _ rfl) rfl
   have q47 : f 31 = (Value.int .i64 (w64 (x1 - 1))) := vt (hA24.at_ 22 rfl _ rfl) rfl
   refine opg_taken (c := decide (0 < x1)) rfl rfl rfl rfl q45 hc1 (op_eql (a := x4) (b := w64 (x1 - 1)) rfl q46 q47 ?_)
   refine ⟨_, _, rfl, PH.Le.refl _, ?_, ?_⟩
   ·
    exact rfl
   ·
    exact I26
  ·
   intro vs25 f w26 S26 X25 le26 hA25 hK25 hI25
   have I27 : Inv w26 S26 (X25) := hI25
   have q48 : f 14 = (Value.bool (decide (0 < x1))) := vt (hA25.at_ 5 rfl _ rfl) rfl
   have q49 : f 32 = (Value.bool (x4 == (w64 (x1 - 1)))) := vt (hA25.at_ 23 rfl _ rfl) rfl
   refine opg_plain rfl rfl (op_pick_t (c := decide (0 < x1)) (a := (Value.bool (x4 == (w64 (x1 - 1))))) rfl q48 hc1 q49 ?_)
   refine ⟨_, _, rfl, PH.Le.refl _, ?_, ?_⟩
   ·
    exact rfl
   ·
    exact I27
  ·
   intro vs26 f w27 S27 X26 le27 hA26 hK26 hI26
   have I28 : Inv w27 S27 (X26) := hI26
   have q50 : f 33 = (Value.bool (x4 == (w64 (x1 - 1)))) := vt (hA26.at_ 24 rfl _ rfl) rfl
   refine opg_plain rfl rfl (op_assign (v := (Value.bool (x4 == (w64 (x1 - 1))))) rfl q50 ?_)
   refine ⟨_, _, rfl, PH.Le.refl _, ?_, ?_⟩
   ·
    exact rfl
   ·
    exact I28
  ·
   intro vs27 f w28 S28 le28 hF1 hK27 hI27
   have I29 : Inv w28 S28 (Fr) := hI27
   have q51 : f 8 = (Value.bool (x4 == (w64 (x1 - 1)))) := vt (hF1.at_ 25 rfl _ rfl) rfl
   refine wp_ret' ?_
   obtain rfl := Option.some.inj h
   exact ⟨(Value.bool (x4 == (w64 (x1 - 1)))), (res1 rfl q51), _, [], (le1.trans le28), I29, rfl, rfl⟩
 ·
  refine wp_draw (sps := [⟨some 9, [], [0], fun vs_ T_ => fr0 vs_ 0 = (Value.slice z3 m3 k3), [], [], [], fun _ h_ => h_⟩, ⟨some 10, [], [1], fun vs_ T_ => fr0 vs_ 0 = (Value.int .i64 (a2)), [], [], [], fun _ h_ => h_⟩, ⟨some 11, [0, 1], [2], fun vs_ T_ => fr0 vs_ 0 = (elemPtr (Value.slice z3 m3 k3) (a2) (Enc.sz Int)), [], [], [], fun _ h_ => h_⟩, ⟨some 12, [0, 1, 2], [3], fun vs_ T_ => fr0 vs_ 0 = (Value.int .i64 (x1)), [], [], [], fun _ h_ => h_⟩, ⟨some 13, [0, 1, 2, 3], [4], fun vs_ T_ => fr0 vs_ 0 = (Value.bool (decide (0 < x1))), [], [], [], fun _ h_ => h_⟩, ⟨some 14, [0, 1, 2, 3, 4], [5], fun vs_ T_ => fr0 vs_ 0 = (Value.bool (decide (0 < x1))), [], [], [], fun _ h_ => h_⟩, ⟨some 15, [0, 1, 2, 3, 4, 5], [6], fun vs_ T_ => fr0 vs_ 0 = undef, [], [], [], fun _ h_ => h_⟩, ⟨some 16, [0, 1, 2, 3, 4, 5], [7], fun vs_ T_ => fr0 vs_ 0 = undef, [], [], [], fun _ h_ => h_⟩, ⟨some 17, [0, 1, 2, 3, 4, 5, 7], [8], fun vs_ T_ => fr0 vs_ 0 = undef, [], [], [], fun _ h_ => h_⟩, ⟨some 18, [0, 1, 2, 3, 4, 5], [9], fun vs_ T_ => fr0 vs_ 0 = undef, [], [], [], fun _ h_ => h_⟩, ⟨some 19, [0, 1, 2, 3, 4, 5, 7, 8, 9], [10], fun vs_ T_ => fr0 vs_ 0 = undef, [], [], [], fun _ h_ => h_⟩, ⟨some 20, [0, 1, 2, 3, 4, 5, 7, 8, 9, 10], [11], fun vs_ T_ => fr0 vs_ 0 = undef, [], [], [], fun _ h_ => h_⟩, ⟨some 21, [0, 1, 2, 3, 4, 5], [12], fun vs_ T_ => fr0 vs_ 0 = undef, [], [], [], fun _ h_ => h_⟩, ⟨some 22, [0, 1, 2, 3, 4, 5, 7, 8, 9, 10, 11, 12], [13], fun vs_ T_ => fr0 vs_ 0 = undef, [], [], [], fun _ h_ => h_⟩, ⟨some 23, [0, 1, 2, 3, 4, 5, 7, 8, 9, 10, 11, 12, 13], [14], fun vs_ T_ => fr0 vs_ 0 = undef, [], [], [], fun _ h_ => h_⟩, ⟨some 24, [0, 1, 2, 3, 4, 5, 7, 8, 9, 10, 11, 12, 13, 14], [15], fun vs_ T_ => fr0 vs_ 0 = undef, [], [], [], fun _ h_ => h_⟩, ⟨some 25, [0, 1, 2, 3, 4, 5, 6, 7, 8, 9, 10, 11, 12, 13, 14, 15], [16], fun vs_ T_ => fr0 vs_ 0 = undef, [], [], [], fun _ h_ => h_⟩, ⟨some 26, [0, 1, 2, 3, 4, 5, 6, 7, 8, 9, 10, 11, 12, 13, 14, 15, 16], [17], fun vs_ T_ => fr0 vs_ 0 = undef, [], [], [], fun _ h_ => h_⟩, ⟨some 27, [0, 1, 2, 3, 4, 5], [18], fun vs_ T_ => fr0 vs_ 0 = undef, [], [], [], fun _ h_ => h_⟩, ⟨some 28, [0, 1, 2, 3, 4, 5], [19], fun vs_ T_ => fr0 vs_ 0 = undef, [], [], [], fun _ h_ => h_⟩, ⟨some 29, [0, 1, 2, 3, 4, 5, 18, 19], [20], fun vs_ T_ => fr0 vs_ 0 = undef, [], [], [], fun _ h_ => h_⟩, ⟨some 30, [0, 1, 2, 3, 4, 5, 18, 19, 20], [21], fun vs_ T_ => fr0 vs_ 0 = undef, [], [], [], fun _ h_ => h_⟩, ⟨some 31, [0, 1, 2, 3, 4, 5, 18, 19, 20, 21], [22], fun vs_ T_ => fr0 vs_ 0 = undef, [], [], [], fun _ h_ => h_⟩, ⟨some 32, [0, 1, 2, 3, 4, 5, 6, 7, 8, 9, 10, 11, 12, 13, 14, 15, 16, 17, 18, 19, 20, 21, 22], [23], fun vs_ T_ => fr0 vs_ 0 = undef, [], [], [], fun _ h_ => h_⟩, ⟨some 33, [0, 1, 2, 3, 4, 5, 6, 7, 8, 9, 10, 11, 12, 13, 14, 15, 16, 17, 18, 19, 20, 21, 22, 23], [24], fun vs_ T_ => fr0 vs_ 0 = (Value.bool (false)), [], [], [], fun _ h_ => h_⟩, ⟨some 8, [0, 1, 2, 3, 4, 5, 6, 7, 8, 9, 10, 11, 12, 13, 14, 15, 16, 17, 18, 19, 20, 21, 22, 23, 24], [25], fun vs_ T_ => fr0 vs_ 0 = (Value.bool (false)), [], [], [], fun _ h_ => h_⟩]) (tks := []) (O := Fr) rfl (by kernel_rfl) I2 ⟨?_, ?_, ?_, ?_, ?_, ?_, ?_, ?_, ?_, ?_, ?_, ?_, ?_, ?_, ?_, ?_, ?_, ?_, ?_, ?_, ?_, ?_, ?_, ?_, ?_, ?_, trivial⟩ ?_
  ·
   intro vs28 f w29 S29 X27 le29 hA27 hK28 hI28
   have I30 : Inv w29 S29 (X27) := hI28
   refine opg_plain rfl rfl (op_move (v := (Value.slice z3 m3 k3)) rfl (hK28 1 (keep_of rfl)) ?_)
   refine ⟨_, _, rfl, PH.Le.refl _, ?_, ?_⟩
   ·
    exact rfl
   ·
    exact I30
  ·
   intro vs29 f w30 S30 X28 le30 hA28 hK29 hI29
   have I31 : Inv w30 S30 (X28) := hI29
   refine opg_plain rfl rfl (op_move (v := (Value.int .i64 (a2))) rfl (hK29 2 (keep_of rfl)) ?_)
   refine ⟨_, _, rfl, PH.Le.refl _, ?_, ?_⟩
   ·
    exact rfl
   ·
    exact I31
  ·
   intro vs30 f w31 S31 X29 le31 hA29 hK30 hI30
   have I32 : Inv w31 S31 (X29) := hI30
   have q52 : f 9 = (Value.slice z3 m3 k3) := vt (hA29.at_ 0 rfl _ rfl) rfl
   have q53 : f 10 = (Value.int .i64 (a2)) := vt (hA29.at_ 1 rfl _ rfl) rfl
   refine opg_plain rfl rfl (op_indexAddr_rv (v := (Value.slice z3 m3 k3)) (i := a2) (e := x1) rfl Try.underlying26 sh3 q52 (h1_.mono (le1.trans le31)) q53 hx1 ?_)
   refine ⟨_, _, rfl, PH.Le.refl _, ?_, ?_⟩
   ·
    exact rfl
   ·
    exact I32
  ·
   intro vs31 f w32 S32 X30 le32 hA30 hK31 hI31
   have I33 : Inv w32 S32 (X30) := hI31
   have q54 : f 11 = (elemPtr (Value.slice z3 m3 k3) (a2) (Enc.sz Int)) := vt (hA30.at_ 2 rfl _ rfl) rfl
   refine opg_plain rfl rfl (op_load_int (v := (elemPtr (Value.slice z3 m3 k3) (a2) (Enc.sz Int))) (e := x1) rfl sh3 q54 ((h1_.mono (le1.trans le32)).elem I33.in_ hx1) ?_)
   refine ⟨_, _, rfl, PH.Le.refl _, ?_, ?_⟩
   ·
    exact rfl
   ·
    exact I33
  ·
   intro vs32 f w33 S33 X31 le33 hA31 hK32 hI32
   have I34 : Inv w33 S33 (X31) := hI32
   have q55 : f 12 = (Value.int .i64 (x1)) := vt (hA31.at_ 3 rfl _ rfl) rfl
   refine opg_plain rfl rfl (op_gtr (a := x1) (b := 0) rfl q55 rfl ?_)
   refine ⟨_, _, rfl, PH.Le.refl _, ?_, ?_⟩
   ·
    exact rfl
   ·
    exact I34
  ·
   intro vs33 f w34 S34 X32 le34 hA32 hK33 hI33
   have I35 : Inv w34 S34 (X32) := hI33
   have q56 : f 13 = (Value.bool (decide (0 < x1))) := vt (hA32.at_ 4 rfl _ rfl) rfl
   refine opg_plain rfl rfl (op_move (v := (Value.bool (decide (0 < x1)))) rfl q56 ?_)
   refine ⟨_, _, rfl, PH.Le.refl _, ?_, ?_⟩
   ·
    exact rfl
   ·
    exact I35
  ·
   intro vs34 f w35 S35 X33 le35 hA33 hK34 hI34
   have I36 : Inv w35 S35 (X33) := hI34
   have q57 : f 14 = (Value.bool (decide (0 < x1))) := vt (hA33.at_ 5 rfl _ rfl) rfl
   exact opg_skip (c := decide (0 < x1)) rfl rfl rfl rfl q57 hc1 rfl ⟨_, _, rfl, PH.Le.refl _, rfl, I36⟩
  ·
   intro vs35 f w36 S36 X34 le36 hA34 hK35 hI35
   have I37 : Inv w36 S36 (X34) := hI35
   have q58 : f 14 = (Value.bool (decide (0 < x1))) := vt (hA34.at_ 5 rfl _ rfl) rfl
   exact opg_skip (c := decide (0 < x1)) rfl rfl rfl rfl q58 hc1 rfl ⟨_, _, rfl, PH.Le.refl _, rfl, I37⟩
  ·
   intro vs36 f w37 S37 X35 le37 hA35 hK36 hI36
   have I38 : Inv w37 S37 (X35) := hI36
   have q59 : f 14 = (Value.bool (decide (0 < x1))) := vt (hA35.at_ 5 rfl _ rfl) rfl
   have q60 : f 16 = undef := vt (hA35.at_ 6 rfl _ rfl) rfl
   exact opg_skip (c := decide (0 < x1)) rfl rfl rfl rfl q59 hc1 rfl ⟨_, _, rfl, PH.Le.refl _, rfl, I38⟩
  ·
   intro vs37 f w38 S38 X36 le38 hA36 hK37 hI37
   have I39 : Inv w38 S38 (X36) := hI37
   have q61 : f 14 = (Value.bool (decide (0 < x1))) := vt (hA36.at_ 5 rfl _ rfl) rfl
   exact opg_skip (c := decide (0 < x1)) rfl rfl rfl rfl q61 hc1 rfl ⟨_, _, rfl, PH.Le.refl _, rfl, I39⟩
  ·
   intro vs38 f w39 S39 X37 le39 hA37 hK38 hI38
   have I40 : Inv w39 S39 (X37) := hI38
   have q62 : f 14 = (Value.bool (decide (0 < x1))) := vt (hA37.at_ 5 rfl _ rfl) rfl
   have q63 : f 17 = undef := vt (hA37.at_ 7 rfl _ rfl) rfl
   have q64 : f 18 = undef := vt (hA37.at_ 8 rfl _ rfl) rfl
   exact opg_skip (c := decide (0 < x1)) rfl rfl rfl rfl q62 hc1 rfl ⟨_, _, rfl, PH.Le.refl _, rfl, I40⟩
  ·
   intro vs39 f w40 S40 X38 le40 hA38 hK39 hI39
   have I41 : Inv w40 S40 (X38) := hI39
   have q65 : f 14 = (Value.bool (decide (0 < x1))) := vt (hA38.at_ 5 rfl _ rfl) rfl
   have q66 : f 19 = undef := vt (hA38.at_ 9 rfl _ rfl) rfl
   exact opg_skip (c := decide (0 < x1)) rfl rfl rfl rfl q65 hc1 rfl ⟨_, _, rfl, PH.Le.refl _, rfl, I41⟩
  ·
   intro vs40 f w41 S41 X39 le41 hA39 hK40 hI40
   have I42 : Inv w41 S41 (X39) := hI40
   have q67 : f 14 = (Value.bool (decide (0 < x1))) := vt (hA39.at_ 5 rfl _ rfl) rfl
   exact opg_skip (c := decide (0 < x1)) rfl rfl rfl rfl q67 hc1 rfl ⟨_, _, rfl, PH.Le.refl _, rfl, I42⟩
  ·
   intro vs41 f w42 S42 X40 le42 hA40 hK41 hI41
   have I43 : Inv w42 S42 (X40) := hI41
   have q68 : f 14 = (Value.bool (decide (0 < x1))) := vt (hA40.at_ 5 rfl _ rfl) rfl
   have q69 : f 20 = undef := vt (hA40.at_ 10 rfl _ rfl) rfl
   have q70 : f 21 = undef := vt (hA40.at_ 11 rfl _ rfl) rfl
   exact opg_skip (c := decide (0 < x1)) rfl rfl rfl rfl q68 hc1 rfl ⟨_, _, rfl, PH.Le.refl _, rfl, I43⟩
  ·
   intro vs42 f w43 S43 X41 le43 hA41 hK42 hI42
   have I44 : Inv w43 S43 (X41) := hI42
   have q71 : f 14 = (Value.bool (decide (0 < x1))) := vt (hA41.at_ 5 rfl _ rfl) rfl
   have q72 : f 22 = undef := vt (hA41.at_ 12 rfl _ rfl) rfl
   exact opg_skip (c := decide (0 < x1)) rfl rfl rfl rfl q71 hc1 rfl ⟨_, _, rfl, PH.Le.refl _, rfl, I44⟩
  ·
   intro vs43 f w44 S44 X42 le44 hA42 hK43 hI43
   have I45 : Inv w44 S44 (X42) := hI43
   have q73 : f 14 = (Value.bool (decide (0 < x1))) := vt (hA42.at_ 5 rfl _ rfl) rfl
   have q74 : f 23 = undef := vt (hA42.at_ 13 rfl _ rfl) rfl
   exact opg_skip (c := decide (0 < x1)) rfl rfl rfl rfl q73 hc1 rfl ⟨_, _, rfl, PH.Le.refl _, rfl, I45⟩
  ·
   intro vs44 f w45 S45 X43 le45 hA43 hK44 hI44
   have I46 : Inv w45 S45 (X43) := hI44
   have q75 : f 14 = (Value.bool (decide (0 < x1))) := vt (hA43.at_ 5 rfl _ rfl) rfl
   have q76 : f 15 = undef := vt (hA43.at_ 6 rfl _ rfl) rfl
   have q77 : f 24 = undef := vt (hA43.at_ 15 rfl _ rfl) rfl
   exact opg_skip (c := decide (0 < x1)) rfl rfl rfl rfl q75 hc1 rfl ⟨_, _, rfl, PH.Le.refl _, rfl, I46⟩
  ·
   intro vs45 f w46 S46 X44 le46 hA44 hK45 hI45
   have I47 : Inv w46 S46 (X44) := hI45
   have q78 : f 14 = (Value.bool (decide (0 < x1))) := vt (hA44.at_ 5 rfl _ rfl) rfl
   have q79 : f 25 = undef := vt (hA44.at_ 16 rfl _ rfl) rfl
   exact opg_skip (c := decide (0 < x1)) rfl rfl rfl rfl q78 hc1 rfl ⟨_, _, rfl, PH.Le.refl _, rfl, I47⟩
  ·
   intro vs46 f w47 S47 X45 le47 hA45 hK46 hI46
   have I48 : Inv w47 S47 (X45) := hI46
   have q80 : f 14 = (Value.bool (decide (0 < x1))) := vt (hA45.at_ 5 rfl _ rfl) rfl
   exact opg_skip (c := decide (0 < x1)) rfl rfl rfl rfl q80 hc1 rfl ⟨_, _, rfl, PH.Le.refl _, rfl, I48⟩
  ·
   intro vs47 f w48 S48 X46 le48 hA46 hK47 hI47
   have I49 : Inv w48 S48 (X46) := hI47
   have q81 : f 14 = (Value.bool (decide (0 < x1))) := vt (hA46.at_ 5 rfl _ rfl) rfl
   exact opg_skip (c := decide (0 < x1)) rfl rfl rfl rfl q81 hc1 rfl ⟨_, _, rfl, PH.Le.refl _, rfl, I49⟩
  ·
   intro vs48 f w49 S49 X47 le49 hA47 hK48 hI48
   have I50 : Inv w49 S49 (X47) := hI48
   have q82 : f 14 = (Value.bool (decide (0 < x1))) := vt (hA47.at_ 5 rfl _ rfl) rfl
   have q83 : f 27 = undef := vt (hA47.at_ 6 rfl _ rfl) rfl
   have q84 : f 28 = undef := vt (hA47.at_ 7 rfl _ rfl) rfl
   exact opg_skip (c := decide (0 < x1)) rfl rfl rfl rfl q82 hc1 rfl ⟨_, _, rfl, PH.Le.refl _, rfl, I50⟩
  ·
   intro vs49 f w50 S50 X48 le50 hA48 hK49 hI49
   have I51 : Inv w50 S50 (X48) := hI49
   have q85 : f 14 = (Value.bool (decide (0 < x1))) := vt (hA48.at_ 5 rfl _ rfl) rfl
   have q86 : f 29 = undef := vt (hA48.at_ 8 rfl _ rfl) rfl
   exact opg_skip (c := decide (0 < x1)) rfl rfl rfl rfl q85 hc1 rfl ⟨_, _, rfl, PH.Le.refl _, rfl, I51⟩
  ·
   intro vs50 f w51 S51 X49 le51 hA49 hK50 hI50
   have I52 : Inv w51 S51 (X49) := hI50
   have q87 : f 14 = (Value.bool (decide (0 < x1))) := vt (hA49.at_ 5 rfl _ rfl) rfl
   have q88 : f 30 = undef := vt (hA49.at_ 9 rfl _ rfl) rfl
   exact opg_skip (c := decide (0 < x1)) rfl rfl rfl rfl q87 hc1 rfl ⟨_, _, rfl, PH.Le.refl _, rfl, I52⟩
  ·
   intro vs51 f w52 S52 X50 le52 hA50 hK51 hI51
   have I53 : Inv w52 S52 (X50) := hI51
   have q89 : f 14 = (Value.bool (decide (0 < x1))) := vt (hA50.at_ 5 rfl _ rfl) rfl
   have q90 : f 26 = undef := vt (hA50.at_ 17 rfl _ rfl) rfl
   have q91 : f 31 = undef := vt (hA50.at_ 22 rfl _ rfl) rfl
   exact opg_skip (c := decide (0 < x1)) rfl rfl rfl rfl q89 hc1 rfl ⟨_, _, rfl, PH.Le.refl _, rfl, I53⟩
  ·
   intro vs52 f w53 S53 X51 le53 hA51 hK52 hI52
   have I54 : Inv w53 S53 (X51) := hI52
   have q92 : f 14 = (Value.bool (decide (0 < x1))) := vt (hA51.at_ 5 rfl _ rfl) rfl
   have q93 : f 32 = undef := vt (hA51.at_ 23 rfl _ rfl) rfl
   refine opg_plain rfl rfl (op_pick_f (c := decide (0 < x1)) (b := (Value.bool (false))) rfl q92 hc1 rfl ?_)
   refine ⟨_, _, rfl, PH.Le.refl _, ?_, ?_⟩
   ·
    exact rfl
   ·
    exact I54
  ·
   intro vs53 f w54 S54 X52 le54 hA52 hK53 hI53
   have I55 : Inv w54 S54 (X52) := hI53
   have q94 : f 33 = (Value.bool (false)) := vt (hA52.at_ 24 rfl _ rfl) rfl
   refine opg_plain rfl rfl (op_assign (v := (Value.bool (false))) rfl q94 ?_)
   refine ⟨_, _, rfl, PH.Le.refl _, ?_, ?_⟩
   ·
    exact rfl
   ·
    exact I55
  ·
   intro vs54 f w55 S55 le55 hF2 hK54 hI54
   have I56 : Inv w55 S55 (Fr) := hI54
   have q95 : f 8 = (Value.bool (false)) := vt (hF2.at_ 25 rfl _ rfl) rfl
   refine wp_ret' ?_
   obtain rfl := Option.some.inj h
   exact ⟨(Value.bool (false)), (res1 rfl q95), _, [], (le1.trans le55), I56, rfl, rfl⟩

set_option maxHeartbeats 4000000 in
set_option maxRecDepth 100000 in
theorem F39_ok {w : World} {S : PH} {Fr : List HP} {a0 : Graph} {v0 : Value} {a1 : (List Int)} {v1 : Value} {r : (List Int) × Int} (hI : Inv w S (Fr)) (h0_ : RV S v0 a0) (h1_ : RV S v1 a1) (h : F39 a0 a1 = some r) :
    Calls Try.prog 39 [v0, v1].toArray w (Done S Fr (fun T_ v_ O_ => ∃ (a0_ : Option Addr) (n0_ k0_ : Nat), v_ = (Value.tuple #[(Value.slice a0_ n0_ k0_), (Value.int .i64 (r.2))]) ∧ O_ = [Row (α := Int) 3 (Value.slice a0_ n0_ k0_) (r.1)])) := by
 unfold F39 at h
 obtain ⟨c1, c2, e1, r1, r2⟩ := Graph.inv h0_
 subst e1
 obtain ⟨z1, m1, k1, e2⟩ := rv_form r1
 subst e2
 obtain ⟨z2, m2, k2, e3⟩ := rv_form r2
 subst e3
 obtain ⟨z3, m3, k3, e4⟩ := rv_form h1_
 subst e4
 refine calls_enter (n := 48) (vs := [(Value.agg #[(Value.slice z1 m1 k1), (Value.slice z2 m2 k2)]), (Value.slice z3 m3 k3)]) Try.func39 rfl rfl rfl ?_
 refine wp_seq' ?_
 refine wp_region' ?_
 refine wl_op rfl (op_box (v := (Value.agg #[(Value.slice z1 m1 k1), (Value.slice z2 m2 k2)])) rfl hI rfl (fun g1 w1 I1 => ?_))
 obtain ⟨S1, le1, I2, p1⟩ := Inv.boxFreeze (x := a0) I1 (Graph.rv (s := a0) r1 r2)
 refine wl_op rfl (op_assign (v := (Value.slice none 0 0)) rfl rfl ?_)
 refine wl_op rfl (op_assign (v := (Value.int .i64 (0))) rfl rfl ?_)
 refine wl_nil ?_
 refine wp_seq' ?_
 refine wp_seq' ?_
 refine wp_region' ?_
 refine wl_op rfl (op_load (v := (Value.pointer (some ⟨g1, 0, none⟩))) (e := a0) rfl sh25 rfl (p1.at_ I2) (fun u1 hu1 => ?_))
 obtain ⟨c3, c4, e5, r3, r4⟩ := Graph.inv hu1
 subst e5
 obtain ⟨z4, m4, k4, e6⟩ := rv_form r3
 subst e6
 obtain ⟨z5, m5, k5, e7⟩ := rv_form r4
 subst e7
 refine wl_op rfl (op_move (v := (Value.slice z3 m3 k3)) rfl rfl ?_)
 obtain ⟨x1, hx1, h⟩ := bnd h
 refine wl_op rfl (op_call_v (vs := [(Value.agg #[(Value.slice z4 m4 k4), (Value.slice z5 m5 k5)]), (Value.slice z3 m3 k3)]) (r := (Value.int .i64 (x1))) rfl ca21 rfl (args2 rfl rfl) I2 (fun Fr_ hF_ => F21_ok hF_ (Graph.rv (s := a0) r3 r4) (h1_.mono le1) hx1) (fun w2 I3 => ?_))
 refine wl_op rfl (op_assign (v := (Value.int .i64 (x1))) rfl rfl ?_)
 refine wl_nil ?_
 refine wp_seq' ?_
 refine wp_region' ?_
 refine wl_op rfl (op_move (v := (Value.int .i64 (x1))) rfl rfl ?_)
 refine wl_op rfl (op_neq (a := x1) (b := 0) rfl rfl rfl ?_)
 refine wl_nil ?_
 rcases ifs h with ⟨hc1, h⟩ | ⟨hc1, h⟩
 ·
  refine wp_cond_t (b := x1 != 0) rfl hc1 ?_
  refine wp_seq' ?_
  refine wp_region' ?_
  refine wl_op rfl (op_move (v := (Value.int .i64 (x1))) rfl rfl ?_)
  refine wl_op rfl (op_assign (v := (Value.slice none 0 0)) rfl rfl ?_)
  refine wl_op rfl (op_assign (v := (Value.int .i64 (x1))) rfl rfl ?_)
  refine wl_nil ?_
  refine wp_ret' ?_
  have I4 := Inv.rowNil (α := Int) (T := 3) I3
  obtain rfl := Option.some.inj h
  exact ⟨(Value.tuple #[(Value.slice none 0 0), (Value.int .i64 (x1))]), (res2 rfl rfl rfl), _, [Row (α := Int) 3 (Value.slice none 0 0) (([] : List Int))], le1, I4, _, _, _, rfl, rfl⟩
 ·
  refine wp_cond_f (b := x1 != 0) rfl hc1 ?_
  refine wp_skip' ?_
  refine wp_seq' ?_
  refine wp_region' ?_
  refine wl_op rfl (op_move (v := (Value.slice z3 m3 k3)) rfl rfl ?_)
  refine wl_op rfl (op_len_rv rfl Try.underlying26 rfl (h1_.mono le1) ?_)
  obtain ⟨x2, hx2, h⟩ := bnd h
  refine wl_op rfl (op_makeSlice (c := (a1.length : Int)) rfl Try.underlying26 el3 (by decide) rfl rfl I3 hx2 (fun u2 w3 I5 => ?_))
  obtain ⟨z6, m6, k6, e8⟩ := row_form I5
  subst e8
  refine wl_op rfl (op_assign (v := (Value.slice z6 m6 k6)) rfl rfl ?_)
  refine wl_nil ?_
  refine wp_seq' ?_
  refine wp_seq' ?_
  refine wp_region' ?_
  refine wl_op rfl (op_assign (v := (Value.int .i64 (0))) rfl rfl ?_)
  refine wl_nil ?_
  have hk1 : a1.length ≤ 9223372036854775807 := (rv_len h1_)
  obtain ⟨out4, hrun4, h⟩ := bnd h
  refine wp_cutN (fun f w => Inv w S1 (Row (α := Int) 3 (Value.slice z6 m6 k6) (out4) :: Fr) ∧ f 1 = (Value.slice z3 m3 k3) ∧ f 2 = (Value.pointer (some ⟨g1, 0, none⟩)) ∧ f 7 = (Value.slice z6 m6 k6)) ?_ ?_
  ·
   refine wp_block' ?_
   refine wp_forS (I := fun (i1 : Nat) (s4 : (List Int)) (f : Frm) (w : World) => Inv w S1 (Row (α := Int) 3 (Value.slice z6 m6 k6) (s4) :: Fr) ∧ f 1 = (Value.slice z3 m3 k3) ∧ f 2 = (Value.pointer (some ⟨g1, 0, none⟩)) ∧ f 7 = (Value.slice z6 m6 k6) ∧ f 8 = (Value.int .i64 (i1 : Int))) hrun4 ⟨I5, rfl, rfl, rfl, rfl⟩ ?_ ?_
   ·
    rintro i1 s4 f w o4 hlt1 hI4 h7
    obtain ⟨I51, e177, e178, e179, e180⟩ := hI4
    refine wp_seq' ?_
    refine wp_seq' ?_
    refine wp_region' ?_
    refine wl_op rfl (op_move (v := (Value.int .i64 ((i1 : Int)))) rfl e180 ?_)
    refine wl_op rfl (op_move (v := (Value.slice z3 m3 k3)) rfl e177 ?_)
    refine wl_op rfl (op_len_rv rfl Try.underlying26 rfl (h1_.mono le1) ?_)
    refine wl_op rfl (op_lss (a := (i1 : Int)) (b := (a1.length : Int)) rfl rfl rfl ?_)
    refine wl_nil ?_
    refine wp_cond_t (b := decide ((i1 : Int) < (a1.length : Int))) rfl (len_t hlt1) ?_
    refine wp_skip' ?_
    refine wp_seq' ?_
    refine wp_block' ?_
    refine wp_seq' ?_
    refine wp_region' ?_
    refine wl_op rfl (op_assign (v := (Value.int .i64 (0))) rfl rfl ?_)
    refine wl_nil ?_
    obtain ⟨out5, hrun5, h7⟩ := bnd h7
    refine wp_cutN (fun f w => Inv w S1 (Row (α := Int) 3 (Value.slice z6 m6 k6) (out5.1) :: Fr) ∧ f 1 = (Value.slice z3 m3 k3) ∧ f 2 = (Value.pointer (some ⟨g1, 0, none⟩)) ∧ f 7 = (Value.slice z6 m6 k6) ∧ f 8 = (Value.int .i64 ((i1 : Int))) ∧ f 9 = (Value.int .i64 (out5.2))) ?_ ?_
    ·
     refine wp_block' ?_
     refine wp_whileO (I := fun (s5 : (List Int × Int)) (f : Frm) (w : World) => Inv w S1 (Row (α := Int) 3 (Value.slice z6 m6 k6) (s5.1) :: Fr) ∧ f 1 = (Value.slice z3 m3 k3) ∧ f 2 = (Value.pointer (some ⟨g1, 0, none⟩)) ∧ f 7 = (Value.slice z6 m6 k6) ∧ f 8 = (Value.int .i64 ((i1 : Int))) ∧ f 9 = (Value.int .i64 (s5.2))) hrun5 ⟨I51, e177, e178, e179, e180, rfl⟩ ?_
     rintro s5 f w o5 hI5 h9 hout5
     obtain ⟨I62, e218, e219, e220, e221, e222⟩ := hI5
     refine wp_seq' ?_
     refine wp_seq' ?_
     refine wp_region' ?_
     refine wl_op rfl (op_move (v := (Value.int .i64 (s5.2))) rfl e222 ?_)
     refine wl_op rfl (op_fieldAddr_t (v := (Value.pointer (some ⟨g1, 0, none⟩))) rfl fa25_1 e219 (p1.at_ I62) ?_)
     refine wl_op rfl (op_load (v := (fieldPtr (Value.pointer (some ⟨g1, 0, none⟩)) 1)) (e := a0.Edges) rfl sh23 rfl ((p1.at_ I62).fld Graph.fld1) (fun u56 hu55 => ?_))
     obtain ⟨z75, m75, k75, e223⟩ := rv_form hu55
     subst e223
     refine wl_op rfl (op_move (v := (Value.int .i64 ((i1 : Int)))) rfl e221 ?_)
     obtain ⟨x67, hx67, h9⟩ := bnd h9
     refine wl_op rfl (op_indexAddr_rv (v := (Value.slice z75 m75 k75)) (i := (i1 : Int)) (e := x67) rfl Try.underlying23 sh40 rfl hu55 rfl hx67 ?_)
     refine wl_op rfl (op_load (v := (elemPtr (Value.slice z75 m75 k75) ((i1 : Int)) (Enc.sz (List Edge)))) (e := x67) rfl sh40 rfl (hu55.elem I62.in_ hx67) (fun u57 hu56 => ?_))
     obtain ⟨z76, m76, k76, e224⟩ := rv_form hu56
     subst e224
     refine wl_op rfl (op_len_rv rfl Try.underlying40 rfl hu56 ?_)
     refine wl_op rfl (op_lss (a := s5.2) (b := (x67.length : Int)) rfl rfl rfl ?_)
     refine wl_nil ?_
     rcases ifs h9 with ⟨hc32, h9⟩ | ⟨hc32, h9⟩
     ·
      refine wp_cond_t (b := decide (s5.2 < (x67.length : Int))) rfl hc32 ?_
      refine wp_skip' ?_
      refine wp_seq' ?_
      refine wp_block' ?_
      refine wp_seq' ?_
      refine wp_region' ?_
      refine wl_op rfl (op_load (v := (Value.pointer (some ⟨g1, 0, none⟩))) (e := a0) rfl sh25 e219 (p1.at_ I62) (fun u58 hu57 => ?_))
      obtain ⟨c35, c36, e225, r35, r36⟩ := Graph.inv hu57
      subst e225
      obtain ⟨z77, m77, k77, e226⟩ := rv_form r35
      subst e226
      obtain ⟨z78, m78, k78, e227⟩ := rv_form r36
      subst e227
      refine wl_op rfl (op_move (v := (Value.slice z3 m3 k3)) rfl e218 ?_)
      refine wl_op rfl (op_move (v := (Value.int .i64 ((i1 : Int)))) rfl e221 ?_)
      refine wl_op rfl (op_move (v := (Value.int .i64 (s5.2))) rfl e222 ?_)
      obtain ⟨x68, hx68, h9⟩ := bnd h9
      refine wl_op rfl (op_call_v (vs := [(Value.agg #[(Value.slice z77 m77 k77), (Value.slice z78 m78 k78)]), (Value.slice z3 m3 k3), (Value.int .i64 ((i1 : Int))), (Value.int .i64 (s5.2))]) (r := (Value.bool (x68))) rfl ca64 rfl (args4 rfl rfl rfl rfl) I62 (fun Fr_ hF_ => F64_ok hF_ (Graph.rv (s := a0) r35 r36) (h1_.mono le1) hx68) (fun w34 I63 => ?_))
      refine wl_op rfl (op_not (b := x68) rfl rfl ?_)
      refine wl_nil ?_
      rcases ifs h9 with ⟨hc33, h9⟩ | ⟨hc33, h9⟩
      ·
       refine wp_cond_t (b := !x68) rfl hc33 ?_
       refine wp_region' ?_
       refine wl_op rfl (op_move (v := (Value.slice z6 m6 k6)) rfl e220 ?_)
       refine wl_op rfl (op_move (v := (Value.int .i64 ((i1 : Int)))) rfl e221 ?_)
       obtain ⟨x69, hx69, h9⟩ := bnd h9
       refine wl_op rfl (op_indexAddr_src (v := (Value.slice z6 m6 k6)) (i := (i1 : Int)) (e := x69) rfl Try.underlying26 sh3 rfl (Inv.rowSrc (I63.nth 0 rfl)) rfl hx69 ?_)
       refine wl_op rfl (op_load_int (v := (elemPtr (Value.slice z6 m6 k6) ((i1 : Int)) (Enc.sz Int))) (e := x69) rfl sh3 rfl ((I63.nth 0 rfl).rowElem hx69) ?_)
       refine wl_op rfl (op_add (a := x69) (b := 1) rfl rfl rfl ?_)
       obtain ⟨x70, hx70, h9⟩ := bnd h9
       refine wl_op rfl (op_indexAddr_src (v := (Value.slice z6 m6 k6)) (i := (i1 : Int)) (e := x70) rfl Try.underlying26 sh3 rfl (Inv.rowSrc (I63.nth 0 rfl)) rfl hx70 ?_)
       refine wl_op rfl (op_storeRow (u := (Value.int .i64 (w64 (x69 + 1)))) (e' := w64 (x69 + 1)) sh3 I63 rfl rfl hx70 (rv_int' _) (fun w35 I64 => ?_))
       refine wl_nil ?_
       refine wp_region' ?_
       refine wl_op rfl (op_move (v := (Value.int .i64 (s5.2))) rfl e222 ?_)
       refine wl_op rfl (op_add (a := s5.2) (b := 1) rfl rfl rfl ?_)
       refine wl_op rfl (op_assign (v := (Value.int .i64 (w64 (s5.2 + 1)))) rfl rfl ?_)
       refine wl_nil ?_
       obtain rfl := Option.some.inj h9
       exact ⟨_, rfl, I64, e218, e219, e220, e221, rfl⟩
      ·
       refine wp_cond_f (b := !x68) rfl hc33 ?_
       refine wp_skip' ?_
       refine wp_region' ?_
       refine wl_op rfl (op_move (v := (Value.int .i64 (s5.2))) rfl e222 ?_)
       refine wl_op rfl (op_add (a := s5.2) (b := 1) rfl rfl rfl ?_)
       refine wl_op rfl (op_assign (v := (Value.int .i64 (w64 (s5.2 + 1)))) rfl rfl ?_)
       refine wl_nil ?_
       obtain rfl := Option.some.inj h9
       exact ⟨_, rfl, I63, e218, e219, e220, e221, rfl⟩
     ·
      refine wp_cond_f (b := decide (s5.2 < (x67.length : Int))) rfl hc32 ?_
      refine wp_exit' ?_
      obtain rfl := Option.some.inj h9
      obtain rfl := (hout5 _ rfl)
      exact ⟨I62, e218, e219, e220, e221, e222⟩
    ·
     rintro f w ⟨I65, e228, e229, e230, e231, e232⟩
     refine wp_region' ?_
     refine wl_op rfl (op_move (v := (Value.int .i64 ((i1 : Int)))) rfl e231 ?_)
     refine wl_op rfl (op_add (a := (i1 : Int)) (b := 1) rfl rfl rfl ?_)
     refine wl_op rfl (op_assign (v := (Value.int .i64 (w64 ((i1 : Int) + 1)))) rfl rfl ?_)
     refine wl_nil ?_
     obtain rfl := Option.some.inj h7
     exact ⟨I65, e228, e229, e230, (idx_next hlt1 hk1)⟩
   ·
    rintro f w hI6
    obtain ⟨I66, e233, e234, e235, e236⟩ := hI6
    refine wp_seq' ?_
    refine wp_seq' ?_
    refine wp_region' ?_
    refine wl_op rfl (op_move (v := (Value.int .i64 ((a1.length : Int)))) rfl e236 ?_)
    refine wl_op rfl (op_move (v := (Value.slice z3 m3 k3)) rfl e233 ?_)
    refine wl_op rfl (op_len_rv rfl Try.underlying26 rfl (h1_.mono le1) ?_)
    refine wl_op rfl (op_lss (a := (a1.length : Int)) (b := (a1.length : Int)) rfl rfl rfl ?_)
    refine wl_nil ?_
    refine wp_cond_f (b := decide ((a1.length : Int) < (a1.length : Int))) rfl (len_f _) ?_
    refine wp_exit' ?_
    exact ⟨I66, e233, e234, e235⟩
  ·
   rintro f w ⟨I67, e237, e238, e239⟩
   refine wp_seq' ?_
   refine wp_region' ?_
   refine wl_op rfl (op_move (v := (Value.slice z6 m6 k6)) rfl e239 ?_)
   refine wl_op rfl (op_assign (v := (Value.slice z6 m6 k6)) rfl rfl ?_)
   refine wl_op rfl (op_assign (v := (Value.int .i64 (0))) rfl rfl ?_)
   refine wl_nil ?_
   refine wp_ret' ?_
   obtain rfl := Option.some.inj h
   exact ⟨(Value.tuple #[(Value.slice z6 m6 k6), (Value.int .i64 (0))]), (res2 rfl rfl rfl), _, [Row (α := Int) 3 (Value.slice z6 m6 k6) (out4)], le1, I67, _, _, _, rfl, rfl⟩

set_option maxHeartbeats 4000000 in
set_option maxRecDepth 100000 in
theorem F40_ok {w : World} {S : PH} {Fr : List HP} {a0 : Graph} {v0 : Value} {a1 : (List Int)} {v1 : Value} {r : (List Int) × Int} (hI : Inv w S (Fr)) (h0_ : RV S v0 a0) (h1_ : RV S v1 a1) (h : F40 a0 a1 = some r) :
    Calls Try.prog 40 [v0, v1].toArray w (Done S Fr (fun T_ v_ O_ => ∃ (a0_ : Option Addr) (n0_ k0_ : Nat), v_ = (Value.tuple #[(Value.slice a0_ n0_ k0_), (Value.int .i64 (r.2))]) ∧ O_ = [Row (α := Int) 3 (Value.slice a0_ n0_ k0_) (r.1)])) := by
 unfold F40 at h
 obtain ⟨c1, c2, e1, r1, r2⟩ := Graph.inv h0_
 subst e1
 obtain ⟨z1, m1, k1, e2⟩ := rv_form r1
 subst e2
 obtain ⟨z2, m2, k2, e3⟩ := rv_form r2
 subst e3
 obtain ⟨z3, m3, k3, e4⟩ := rv_form h1_
 subst e4
 refine calls_enter (n := 53) (vs := [(Value.agg #[(Value.slice z1 m1 k1), (Value.slice z2 m2 k2)]), (Value.slice z3 m3 k3)]) Try.func40 rfl rfl rfl ?_
 refine wp_seq' ?_
 refine wp_region' ?_
 refine wl_op rfl (op_box (v := (Value.agg #[(Value.slice z1 m1 k1), (Value.slice z2 m2 k2)])) rfl hI rfl (fun g1 w1 I1 => ?_))
 obtain ⟨S1, le1, I2, p1⟩ := Inv.boxFreeze (x := a0) I1 (Graph.rv (s := a0) r1 r2)
 refine wl_op rfl (op_assign (v := (Value.slice none 0 0)) rfl rfl ?_)
 refine wl_op rfl (op_assign (v := (Value.int .i64 (0))) rfl rfl ?_)
 refine wl_nil ?_
 refine wp_seq' ?_
 refine wp_seq' ?_
 refine wp_region' ?_
 refine wl_op rfl (op_load (v := (Value.pointer (some ⟨g1, 0, none⟩))) (e := a0) rfl sh25 rfl (p1.at_ I2) (fun u1 hu1 => ?_))
 obtain ⟨c3, c4, e5, r3, r4⟩ := Graph.inv hu1
 subst e5
 obtain ⟨z4, m4, k4, e6⟩ := rv_form r3
 subst e6
 obtain ⟨z5, m5, k5, e7⟩ := rv_form r4
 subst e7
 refine wl_op rfl (op_move (v := (Value.slice z3 m3 k3)) rfl rfl ?_)
 obtain ⟨x1, hx1, h⟩ := bnd h
 refine wl_op rfl (op_call_v (vs := [(Value.agg #[(Value.slice z4 m4 k4), (Value.slice z5 m5 k5)]), (Value.slice z3 m3 k3)]) (r := (Value.int .i64 (x1))) rfl ca21 rfl (args2 rfl rfl) I2 (fun Fr_ hF_ => F21_ok hF_ (Graph.rv (s := a0) r3 r4) (h1_.mono le1) hx1) (fun w2 I3 => ?_))
 refine wl_op rfl (op_assign (v := (Value.int .i64 (x1))) rfl rfl ?_)
 refine wl_nil ?_
 refine wp_seq' ?_
 refine wp_region' ?_
 refine wl_op rfl (op_move (v := (Value.int .i64 (x1))) rfl rfl ?_)
 refine wl_op rfl (op_neq (a := x1) (b := 0) rfl rfl rfl ?_)
 refine wl_nil ?_
 rcases ifs h with ⟨hc1, h⟩ | ⟨hc1, h⟩
 ·
  refine wp_cond_t (b := x1 != 0) rfl hc1 ?_
  refine wp_seq' ?_
  refine wp_region' ?_
  refine wl_op rfl (op_move (v := (Value.int .i64 (x1))) rfl rfl ?_)
  refine wl_op rfl (op_assign (v := (Value.slice none 0 0)) rfl rfl ?_)
  refine wl_op rfl (op_assign (v := (Value.int .i64 (x1))) rfl rfl ?_)
  refine wl_nil ?_
  refine wp_ret' ?_
  have I4 := Inv.rowNil (α := Int) (T := 3) I3
  obtain rfl := Option.some.inj h
  exact ⟨(Value.tuple #[(Value.slice none 0 0), (Value.int .i64 (x1))]), (res2 rfl rfl rfl), _, [Row (α := Int) 3 (Value.slice none 0 0) (([] : List Int))], le1, I4, _, _, _, rfl, rfl⟩
 ·
  refine wp_cond_f (b := x1 != 0) rfl hc1 ?_
  refine wp_skip' ?_
  refine wp_seq' ?_
  refine wp_region' ?_
  refine wl_op rfl (op_assign (v := (Value.int .i64 ((-1)))) rfl rfl ?_)
  refine wl_nil ?_
  refine wp_seq' ?_
  refine wp_seq' ?_
  refine wp_region' ?_
  refine wl_op rfl (op_assign (v := (Value.int .i64 (0))) rfl rfl ?_)
  refine wl_nil ?_
  have hk1 : a1.length ≤ 9223372036854775807 := (rv_len h1_)
  obtain ⟨out1, hrun1, h⟩ := bnd h
  refine wp_cutN (fun f w => Inv w S1 (Fr) ∧ f 1 = (Value.slice z3 m3 k3) ∧ f 7 = (Value.int .i64 (out1))) ?_ ?_
  ·
   refine wp_block' ?_
   refine wp_forS (I := fun (i1 : Nat) (s1 : (Int)) (f : Frm) (w : World) => Inv w S1 (Fr) ∧ f 1 = (Value.slice z3 m3 k3) ∧ f 7 = (Value.int .i64 (s1)) ∧ f 8 = (Value.int .i64 (i1 : Int))) hrun1 ⟨I3, rfl, rfl, rfl⟩ ?_ ?_
   ·
    rintro i1 s1 f w o1 hlt1 hI1 h1
    obtain ⟨I8, e17, e18, e19⟩ := hI1
    refine wp_seq' ?_
    refine wp_seq' ?_
    refine wp_region' ?_
    refine wl_op rfl (op_move (v := (Value.int .i64 ((i1 : Int)))) rfl e19 ?_)
    refine wl_op rfl (op_move (v := (Value.slice z3 m3 k3)) rfl e17 ?_)
    refine wl_op rfl (op_len_rv rfl Try.underlying26 rfl (h1_.mono le1) ?_)
    refine wl_op rfl (op_lss (a := (i1 : Int)) (b := (a1.length : Int)) rfl rfl rfl ?_)
    refine wl_nil ?_
    refine wp_cond_t (b := decide ((i1 : Int) < (a1.length : Int))) rfl (len_t hlt1) ?_
    refine wp_skip' ?_
    refine wp_seq' ?_
    refine wp_block' ?_
    refine wp_region' ?_
    refine wl_op rfl (op_move (v := (Value.int .i64 (s1))) rfl e18 ?_)
    refine wl_op rfl (op_move (v := (Value.slice z3 m3 k3)) rfl e17 ?_)
    refine wl_op rfl (op_move (v := (Value.int .i64 ((i1 : Int)))) rfl e19 ?_)
    obtain ⟨x5, hx5, h1⟩ := bnd h1
    refine wl_op rfl (op_indexAddr_rv (v := (Value.slice z3 m3 k3)) (i := (i1 : Int)) (e := x5) rfl Try.underlying26 sh3 rfl (h1_.mono le1) rfl hx5 ?_)
    refine wl_op rfl (op_load_int (v := (elemPtr (Value.slice z3 m3 k3) ((i1 : Int)) (Enc.sz Int))) (e := x5) rfl sh3 rfl ((h1_.mono le1).elem I8.in_ hx5) ?_)
    refine wl_op rfl (op_max (a := s1) (b := x5) rfl rfl rfl ?_)
    refine wl_op rfl (op_assign (v := (Value.int .i64 (maxI s1 x5))) rfl rfl ?_)
    refine wl_nil ?_
    refine wp_region' ?_
    refine wl_op rfl (op_move (v := (Value.int .i64 ((i1 : Int)))) rfl e19 ?_)
    refine wl_op rfl (op_add (a := (i1 : Int)) (b := 1) rfl rfl rfl ?_)
    refine wl_op rfl (op_assign (v := (Value.int .i64 (w64 ((i1 : Int) + 1)))) rfl rfl ?_)
    refine wl_nil ?_
    obtain rfl := Option.some.inj h1
    exact ⟨I8, e17, rfl, (idx_next hlt1 hk1)⟩
   ·
    rintro f w hI2
    obtain ⟨I9, e20, e21, e22⟩ := hI2
    refine wp_seq' ?_
    refine wp_seq' ?_
    refine wp_region' ?_
    refine wl_op rfl (op_move (v := (Value.int .i64 ((a1.length : Int)))) rfl e22 ?_)
    refine wl_op rfl (op_move (v := (Value.slice z3 m3 k3)) rfl e20 ?_)
    refine wl_op rfl (op_len_rv rfl Try.underlying26 rfl (h1_.mono le1) ?_)
    refine wl_op rfl (op_lss (a := (a1.length : Int)) (b := (a1.length : Int)) rfl rfl rfl ?_)
    refine wl_nil ?_
    refine wp_cond_f (b := decide ((a1.length : Int) < (a1.length : Int))) rfl (len_f _) ?_
    refine wp_exit' ?_
    exact ⟨I9, e20, e21⟩
  ·
   rintro f w ⟨I10, e23, e24⟩
   refine wp_seq' ?_
   refine wp_region' ?_
   refine wl_op rfl (op_move (v := (Value.int .i64 (out1))) rfl e24 ?_)
   refine wl_op rfl (op_add (a := out1) (b := 1) rfl rfl rfl ?_)
   obtain ⟨x6, hx6, h⟩ := bnd h
   refine wl_op rfl (op_makeSlice (c := w64 (out1 + 1)) rfl Try.underlying26 el3 (by decide) rfl rfl I10 hx6 (fun u2 w3 I11 => ?_))
   obtain ⟨z6, m6, k6, e25⟩ := row_form I11
   subst e25
   refine wl_op rfl (op_assign (v := (Value.slice z6 m6 k6)) rfl rfl ?_)
   refine wl_nil ?_
   refine wp_seq' ?_
   refine wp_seq' ?_
   refine wp_region' ?_
   refine wl_op rfl (op_assign (v := (Value.int .i64 (0))) rfl rfl ?_)
   refine wl_nil ?_
   have hk2 : a1.length ≤ 9223372036854775807 := (rv_len h1_)
   obtain ⟨out2, hrun2, h⟩ := bnd h
   refine wp_cutN (fun f w => Inv w S1 (Row (α := Int) 3 (Value.slice z6 m6 k6) (out2) :: Fr) ∧ f 1 = (Value.slice z3 m3 k3) ∧ f 9 = (Value.slice z6 m6 k6)) ?_ ?_
   ·
    refine wp_block' ?_
    refine wp_forS (I := fun (i2 : Nat) (s2 : (List Int)) (f : Frm) (w : World) => Inv w S1 (Row (α := Int) 3 (Value.slice z6 m6 k6) (s2) :: Fr) ∧ f 1 = (Value.slice z3 m3 k3) ∧ f 9 = (Value.slice z6 m6 k6) ∧ f 10 = (Value.int .i64 (i2 : Int))) hrun2 ⟨I11, e23, rfl, rfl⟩ ?_ ?_
    ·
     rintro i2 s2 f w o2 hlt2 hI3 h3
     obtain ⟨I18, e35, e36, e37⟩ := hI3
     refine wp_seq' ?_
     refine wp_seq' ?_
     refine wp_region' ?_
     refine wl_op rfl (op_move (v := (Value.int .i64 ((i2 : Int)))) rfl e37 ?_)
     refine wl_op rfl (op_move (v := (Value.slice z3 m3 k3)) rfl e35 ?_)
     refine wl_op rfl (op_len_rv rfl Try.underlying26 rfl (h1_.mono le1) ?_)
     refine wl_op rfl (op_lss (a := (i2 : Int)) (b := (a1.length : Int)) rfl rfl rfl ?_)
     refine wl_nil ?_
     refine wp_cond_t (b := decide ((i2 : Int) < (a1.length : Int))) rfl (len_t hlt2) ?_
     refine wp_skip' ?_
     refine wp_seq' ?_
     refine wp_block' ?_
     refine wp_seq' ?_
     refine wp_region' ?_
     refine wl_op rfl (op_move (v := (Value.slice z3 m3 k3)) rfl e35 ?_)
     refine wl_op rfl (op_move (v := (Value.int .i64 ((i2 : Int)))) rfl e37 ?_)
     obtain ⟨x19, hx19, h3⟩ := bnd h3
     refine wl_op rfl (op_indexAddr_rv (v := (Value.slice z3 m3 k3)) (i := (i2 : Int)) (e := x19) rfl Try.underlying26 sh3 rfl (h1_.mono le1) rfl hx19 ?_)
     refine wl_op rfl (op_load_int (v := (elemPtr (Value.slice z3 m3 k3) ((i2 : Int)) (Enc.sz Int))) (e := x19) rfl sh3 rfl ((h1_.mono le1).elem I18.in_ hx19) ?_)
     refine wl_op rfl (op_geq (a := x19) (b := 0) rfl rfl rfl ?_)
     refine wl_nil ?_
     rcases ifs h3 with ⟨hc5, h3⟩ | ⟨hc5, h3⟩
     ·
      refine wp_cond_t (b := decide (0 ≤ x19)) rfl hc5 ?_
      refine wp_region' ?_
      refine wl_op rfl (op_move (v := (Value.slice z6 m6 k6)) rfl e36 ?_)
      refine wl_op rfl (op_move (v := (Value.slice z3 m3 k3)) rfl e35 ?_)
      refine wl_op rfl (op_move (v := (Value.int .i64 ((i2 : Int)))) rfl e37 ?_)
      obtain ⟨x20, hx20, h3⟩ := bnd h3
      refine wl_op rfl (op_indexAddr_rv (v := (Value.slice z3 m3 k3)) (i := (i2 : Int)) (e := x20) rfl Try.underlying26 sh3 rfl (h1_.mono le1) rfl hx20 ?_)
      refine wl_op rfl (op_load_int (v := (elemPtr (Value.slice z3 m3 k3) ((i2 : Int)) (Enc.sz Int))) (e := x20) rfl sh3 rfl ((h1_.mono le1).elem I18.in_ hx20) ?_)
      obtain ⟨x21, hx21, h3⟩ := bnd h3
      refine wl_op rfl (op_indexAddr_src (v := (Value.slice z6 m6 k6)) (i := x20) (e := x21) rfl Try.underlying26 sh3 rfl (Inv.rowSrc (I18.nth 0 rfl)) rfl hx21 ?_)
      refine wl_op rfl (op_load_int (v := (elemPtr (Value.slice z6 m6 k6) (x20) (Enc.sz Int))) (e := x21) rfl sh3 rfl ((I18.nth 0 rfl).rowElem hx21) ?_)
      refine wl_op rfl (op_add (a := x21) (b := 1) rfl rfl rfl ?_)
      obtain ⟨x22, hx22, h3⟩ := bnd h3
      refine wl_op rfl (op_indexAddr_src (v := (Value.slice z6 m6 k6)) (i := x20) (e := x22) rfl Try.underlying26 sh3 rfl (Inv.rowSrc (I18.nth 0 rfl)) rfl hx22 ?_)
      refine wl_op rfl (op_storeRow (u := (Value.int .i64 (w64 (x21 + 1)))) (e' := w64 (x21 + 1)) sh3 I18 rfl rfl hx22 (rv_int' _) (fun w7 I19 => ?_))
      refine wl_nil ?_
      refine wp_region' ?_
      refine wl_op rfl (op_move (v := (Value.int .i64 ((i2 : Int)))) rfl e37 ?_)
      refine wl_op rfl (op_add (a := (i2 : Int)) (b := 1) rfl rfl rfl ?_)
      refine wl_op rfl (op_assign (v := (Value.int .i64 (w64 ((i2 : Int) + 1)))) rfl rfl ?_)
      refine wl_nil ?_
      obtain rfl := Option.some.inj h3
      exact ⟨I19, e35, e36, (idx_next hlt2 hk2)⟩
     ·
      refine wp_cond_f (b := decide (0 ≤ x19)) rfl hc5 ?_
      refine wp_skip' ?_
      refine wp_region' ?_
      refine wl_op rfl (op_move (v := (Value.int .i64 ((i2 : Int)))) rfl e37 ?_)
      refine wl_op rfl (op_add (a := (i2 : Int)) (b := 1) rfl rfl rfl ?_)
      refine wl_op rfl (op_assign (v := (Value.int .i64 (w64 ((i2 : Int) + 1)))) rfl rfl ?_)
      refine wl_nil ?_
      obtain rfl := Option.some.inj h3
      exact ⟨I18, e35, e36, (idx_next hlt2 hk2)⟩
    ·
     rintro f w hI4
     obtain ⟨I20, e38, e39, e40⟩ := hI4
     refine wp_seq' ?_
     refine wp_seq' ?_
     refine wp_region' ?_
     refine wl_op rfl (op_move (v := (Value.int .i64 ((a1.length : Int)))) rfl e40 ?_)
     refine wl_op rfl (op_move (v := (Value.slice z3 m3 k3)) rfl e38 ?_)
     refine wl_op rfl (op_len_rv rfl Try.underlying26 rfl (h1_.mono le1) ?_)
     refine wl_op rfl (op_lss (a := (a1.length : Int)) (b := (a1.length : Int)) rfl rfl rfl ?_)
     refine wl_nil ?_
     refine wp_cond_f (b := decide ((a1.length : Int) < (a1.length : Int))) rfl (len_f _) ?_
     refine wp_exit' ?_
     exact ⟨I20, e38, e39⟩
   ·
    rintro f w ⟨I21, e41, e42⟩
    refine wp_seq' ?_
    refine wp_region' ?_
    refine wl_op rfl (op_move (v := (Value.slice z6 m6 k6)) rfl e42 ?_)
    refine wl_op rfl (op_assign (v := (Value.slice z6 m6 k6)) rfl rfl ?_)
    refine wl_op rfl (op_assign (v := (Value.int .i64 (0))) rfl rfl ?_)
    refine wl_nil ?_
    refine wp_ret' ?_
    obtain rfl := Option.some.inj h
    exact ⟨(Value.tuple #[(Value.slice z6 m6 k6), (Value.int .i64 (0))]), (res2 rfl rfl rfl), _, [Row (α := Int) 3 (Value.slice z6 m6 k6) (out2)], le1, I21, _, _, _, rfl, rfl⟩

set_option maxHeartbeats 4000000 in
set_option maxRecDepth 100000 in
theorem F41_ok {w : World} {S : PH} {Fr : List HP} {a0 : Graph} {v0 : Value} {a1 : (List Int)} {v1 : Value} {r : (List Int) × Int} (hI : Inv w S (Fr)) (h0_ : RV S v0 a0) (h1_ : RV S v1 a1) (h : F41 a0 a1 = some r) :
    Calls Try.prog 41 [v0, v1].toArray w (Done S Fr (fun T_ v_ O_ => ∃ (a0_ : Option Addr) (n0_ k0_ : Nat), v_ = (Value.tuple #[(Value.slice a0_ n0_ k0_), (Value.int .i64 (r.2))]) ∧ O_ = [Row (α := Int) 3 (Value.slice a0_ n0_ k0_) (r.1)])) := by
 unfold F41 at h
 obtain ⟨c1, c2, e1, r1, r2⟩ := Graph.inv h0_
 subst e1
 obtain ⟨z1, m1, k1, e2⟩ := rv_form r1
 subst e2
 obtain ⟨z2, m2, k2, e3⟩ := rv_form r2
 subst e3
 obtain ⟨z3, m3, k3, e4⟩ := rv_form h1_
 subst e4
 refine calls_enter (n := 52) (vs := [(Value.agg #[(Value.slice z1 m1 k1), (Value.slice z2 m2 k2)]), (Value.slice z3 m3 k3)]) Try.func41 rfl rfl rfl ?_
 refine wp_seq' ?_
 refine wp_region' ?_
 refine wl_op rfl (op_box (v := (Value.agg #[(Value.slice z1 m1 k1), (Value.slice z2 m2 k2)])) rfl hI rfl (fun g1 w1 I1 => ?_))
 obtain ⟨S1, le1, I2, p1⟩ := Inv.boxFreeze (x := a0) I1 (Graph.rv (s := a0) r1 r2)
 refine wl_op rfl (op_assign (v := (Value.slice none 0 0)) rfl rfl ?_)
 refine wl_op rfl (op_assign (v := (Value.int .i64 (0))) rfl rfl ?_)
 refine wl_nil ?_
 refine wp_seq' ?_
 refine wp_seq' ?_
 refine wp_region' ?_
 refine wl_op rfl (op_load (v := (Value.pointer (some ⟨g1, 0, none⟩))) (e := a0) rfl sh25 rfl (p1.at_ I2) (fun u1 hu1 => ?_))
 obtain ⟨c3, c4, e5, r3, r4⟩ := Graph.inv hu1
 subst e5
 obtain ⟨z4, m4, k4, e6⟩ := rv_form r3
 subst e6
 obtain ⟨z5, m5, k5, e7⟩ := rv_form r4
 subst e7
 refine wl_op rfl (op_move (v := (Value.slice z3 m3 k3)) rfl rfl ?_)
 obtain ⟨x1, hx1, h⟩ := bnd h
 refine wl_op rfl (op_call_v (vs := [(Value.agg #[(Value.slice z4 m4 k4), (Value.slice z5 m5 k5)]), (Value.slice z3 m3 k3)]) (r := (Value.int .i64 (x1))) rfl ca21 rfl (args2 rfl rfl) I2 (fun Fr_ hF_ => F21_ok hF_ (Graph.rv (s := a0) r3 r4) (h1_.mono le1) hx1) (fun w2 I3 => ?_))
 refine wl_op rfl (op_assign (v := (Value.int .i64 (x1))) rfl rfl ?_)
 refine wl_nil ?_
 refine wp_seq' ?_
 refine wp_region' ?_
 refine wl_op rfl (op_move (v := (Value.int .i64 (x1))) rfl rfl ?_)
 refine wl_op rfl (op_neq (a := x1) (b := 0) rfl rfl rfl ?_)
 refine wl_nil ?_
 rcases ifs h with ⟨hc1, h⟩ | ⟨hc1, h⟩
 ·
  refine wp_cond_t (b := x1 != 0) rfl hc1 ?_
  refine wp_seq' ?_
  refine wp_region' ?_
  refine wl_op rfl (op_move (v := (Value.int .i64 (x1))) rfl rfl ?_)
  refine wl_op rfl (op_assign (v := (Value.slice none 0 0)) rfl rfl ?_)
  refine wl_op rfl (op_assign (v := (Value.int .i64 (x1))) rfl rfl ?_)
  refine wl_nil ?_
  refine wp_ret' ?_
  have I4 := Inv.rowNil (α := Int) (T := 3) I3
  obtain rfl := Option.some.inj h
  exact ⟨(Value.tuple #[(Value.slice none 0 0), (Value.int .i64 (x1))]), (res2 rfl rfl rfl), _, [Row (α := Int) 3 (Value.slice none 0 0) (([] : List Int))], le1, I4, _, _, _, rfl, rfl⟩
 ·
  refine wp_cond_f (b := x1 != 0) rfl hc1 ?_
  refine wp_skip' ?_
  refine wp_seq' ?_
  refine wp_seq' ?_
  refine wp_region' ?_
  refine wl_op rfl (op_move (v := (Value.slice z3 m3 k3)) rfl rfl ?_)
  obtain ⟨x2, hx2, h⟩ := bnd h
  refine wl_op rfl (op_indexAddr_rv (v := (Value.slice z3 m3 k3)) (i := 0) (e := x2) rfl Try.underlying26 sh3 rfl (h1_.mono le1) rfl hx2 ?_)
  refine wl_op rfl (op_load_int (v := (elemPtr (Value.slice z3 m3 k3) (0) (Enc.sz Int))) (e := x2) rfl sh3 rfl ((h1_.mono le1).elem I3.in_ hx2) ?_)
  refine wl_op rfl (op_lss (a := x2) (b := 0) rfl rfl rfl ?_)
  refine wl_nil ?_
  rcases ifs h with ⟨hc2, h⟩ | ⟨hc2, h⟩
  ·
   refine wp_cond_t (b := decide (x2 < 0)) rfl hc2 ?_
   refine wp_seq' ?_
   refine wp_region' ?_
   refine wl_op rfl (op_assign (v := (Value.slice none 0 0)) rfl rfl ?_)
   refine wl_op rfl (op_assign (v := (Value.int .i64 (3))) rfl rfl ?_)
   refine wl_nil ?_
   refine wp_ret' ?_
   have I5 := Inv.rowNil (α := Int) (T := 3) I3
   obtain rfl := Option.some.inj h
   exact ⟨(Value.tuple #[(Value.slice none 0 0), (Value.int .i64 (3))]), (res2 rfl rfl rfl), _, [Row (α := Int) 3 (Value.slice none 0 0) (([] : List Int))], le1, I5, _, _, _, rfl, rfl⟩
  ·
   refine wp_cond_f (b := decide (x2 < 0)) rfl hc2 ?_
   refine wp_skip' ?_
   refine wp_seq' ?_
   refine wp_region' ?_
   refine wl_op rfl (op_assign (v := (Value.slice none 0 0)) rfl rfl ?_)
   refine wl_nil ?_
   refine wp_seq' ?_
   refine wp_seq' ?_
   refine wp_region' ?_
   refine wl_op rfl (op_assign (v := (Value.int .i64 (0))) rfl rfl ?_)
   refine wl_nil ?_
   have I116 := Inv.rowNil (α := Int) (T := 3) I3
   obtain ⟨out7, hrun7, h⟩ := bnd h
   refine wp_cutN (fun f w => ∃ (z131 : Option Addr) (m131 k131 : Nat), Inv w S1 (Row (α := Int) 3 (Value.slice z131 m131 k131) (out7.1) :: Fr) ∧ f 1 = (Value.slice z3 m3 k3) ∧ f 2 = (Value.pointer (some ⟨g1, 0, none⟩)) ∧ f 7 = (Value.slice z131 m131 k131) ∧ f 8 = (Value.int .i64 (out7.2))) ?_ ?_
   ·
    refine wp_block' ?_
    refine wp_whileO (I := fun (s7 : (List Int × Int)) (f : Frm) (w : World) => ∃ (z130 : Option Addr) (m130 k130 : Nat), Inv w S1 (Row (α := Int) 3 (Value.slice z130 m130 k130) (s7.1) :: Fr) ∧ f 1 = (Value.slice z3 m3 k3) ∧ f 2 = (Value.pointer (some ⟨g1, 0, none⟩)) ∧ f 7 = (Value.slice z130 m130 k130) ∧ f 8 = (Value.int .i64 (s7.2))) hrun7 ⟨_, _, _, I116, rfl, rfl, rfl, rfl⟩ ?_
    rintro s7 f w o7 hI7 h13 hout7
    obtain ⟨z130, m130, k130, I117, e434, e435, e436, e437⟩ := hI7
    refine wp_seq' ?_
    refine wp_seq' ?_
    refine wp_region' ?_
    refine wl_op rfl (op_move (v := (Value.slice z3 m3 k3)) rfl e434 ?_)
    refine wl_op rfl (op_move (v := (Value.int .i64 (s7.2))) rfl e437 ?_)
    obtain ⟨x75, hx75, h13⟩ := bnd h13
    refine wl_op rfl (op_indexAddr_rv (v := (Value.slice z3 m3 k3)) (i := s7.2) (e := x75) rfl Try.underlying26 sh3 rfl (h1_.mono le1) rfl hx75 ?_)
    refine wl_op rfl (op_load_int (v := (elemPtr (Value.slice z3 m3 k3) (s7.2) (Enc.sz Int))) (e := x75) rfl sh3 rfl ((h1_.mono le1).elem I117.in_ hx75) ?_)
    refine wl_op rfl (op_gtr (a := x75) (b := 0) rfl rfl rfl ?_)
    refine wl_nil ?_
    rcases ifs h13 with ⟨hc51, h13⟩ | ⟨hc51, h13⟩
    ·
     refine wp_cond_t (b := decide (0 < x75)) rfl hc51 ?_
     refine wp_skip' ?_
     refine wp_block' ?_
     refine wp_seq' ?_
     refine wp_region' ?_
     refine wl_op rfl (op_move (v := (Value.slice z130 m130 k130)) rfl e436 ?_)
     refine wl_op rfl (op_fieldAddr_t (v := (Value.pointer (some ⟨g1, 0, none⟩))) rfl fa25_1 e435 (p1.at_ I117) ?_)
     refine wl_op rfl (op_load (v := (fieldPtr (Value.pointer (some ⟨g1, 0, none⟩)) 1)) (e := a0.Edges) rfl sh23 rfl ((p1.at_ I117).fld Graph.fld1) (fun u80 hu68 => ?_))
     obtain ⟨z132, m132, k132, e438⟩ := rv_form hu68
     subst e438
     refine wl_op rfl (op_move (v := (Value.int .i64 (s7.2))) rfl e437 ?_)
     obtain ⟨x76, hx76, h13⟩ := bnd h13
     refine wl_op rfl (op_indexAddr_rv (v := (Value.slice z132 m132 k132)) (i := s7.2) (e := x76) rfl Try.underlying23 sh40 rfl hu68 rfl hx76 ?_)
     refine wl_op rfl (op_load (v := (elemPtr (Value.slice z132 m132 k132) (s7.2) (Enc.sz (List Edge)))) (e := x76) rfl sh40 rfl (hu68.elem I117.in_ hx76) (fun u81 hu69 => ?_))
     obtain ⟨z133, m133, k133, e439⟩ := rv_form hu69
     subst e439
     refine wl_op rfl (op_len_rv rfl Try.underlying40 rfl hu69 ?_)
     refine wl_op rfl (op_buildSlice (vs := [(Value.int .i64 ((x76.length : Int)))]) (r := ([(x76.length : Int)] : List Int)) rfl Try.underlying26 el3 (parts1 rfl) rfl (by decide) (by decide) ⟨(rv_int' _), trivial⟩ I117 (fun u82 w57 I118 => ?_))
     obtain ⟨z134, m134, k134, e440⟩ := row_form I118
     subst e440
     obtain ⟨x77, hx77, h13⟩ := bnd h13
     refine wl_op rfl (op_append (α := Int) (v := (Value.slice z130 m130 k130)) (u := (Value.slice z134 m134 k134)) rfl rfl Try.underlying26 el3 (by decide) (by decide) rfl rfl (I118.pull 1) (Inv.rowSrc (I118.nth 0 rfl)) hx77 (fun u83 w58 I119 => ?_))
     obtain ⟨z135, m135, k135, e441⟩ := row_form I119
     subst e441
     refine wl_op rfl (op_assign (v := (Value.slice z135 m135 k135)) rfl rfl ?_)
     refine wl_nil ?_
     refine wp_seq' ?_
     refine wp_region' ?_
     refine wl_op rfl (op_assign (v := (Value.int .i64 (0))) rfl rfl ?_)
     refine wl_nil ?_
     obtain ⟨out8, hrun8, h13⟩ := bnd h13
     refine wp_cut (fun f w => Inv w S1 (Row (α := Int) 3 (Value.slice z135 m135 k135) (x77) :: Fr) ∧ f 1 = (Value.slice z3 m3 k3) ∧ f 2 = (Value.pointer (some ⟨g1, 0, none⟩)) ∧ f 7 = (Value.slice z135 m135 k135) ∧ f 8 = (Value.int .i64 (s7.2)) ∧ f 9 = (Value.int .i64 (out8))) ?_ ?_
     ·
      refine wp_block' ?_
      refine wp_whileO (I := fun (s8 : (Int)) (f : Frm) (w : World) => Inv w S1 (Row (α := Int) 3 (Value.slice z135 m135 k135) (x77) :: Fr) ∧ f 1 = (Value.slice z3 m3 k3) ∧ f 2 = (Value.pointer (some ⟨g1, 0, none⟩)) ∧ f 7 = (Value.slice z135 m135 k135) ∧ f 8 = (Value.int .i64 (s7.2)) ∧ f 9 = (Value.int .i64 (s8))) hrun8 ⟨(I119.pull 1).drop, e434, e435, rfl, e437, rfl⟩ ?_
      rintro s8 f w o8 hI8 h15 hout8
      obtain ⟨I132, e490, e491, e492, e493, e494⟩ := hI8
      refine wp_seq' ?_
      refine wp_seq' ?_
      refine wp_region' ?_
      refine wl_op rfl (op_load (v := (Value.pointer (some ⟨g1, 0, none⟩))) (e := a0) rfl sh25 e491 (p1.at_ I132) (fun u90 hu76 => ?_))
      obtain ⟨c101, c102, e495, r101, r102⟩ := Graph.inv hu76
      subst e495
      obtain ⟨z148, m148, k148, e496⟩ := rv_form r101
      subst e496
      obtain ⟨z149, m149, k149, e497⟩ := rv_form r102
      subst e497
      refine wl_op rfl (op_move (v := (Value.slice z3 m3 k3)) rfl e490 ?_)
      refine wl_op rfl (op_move (v := (Value.int .i64 (s7.2))) rfl e493 ?_)
      refine wl_op rfl (op_move (v := (Value.int .i64 (s8))) rfl e494 ?_)
      obtain ⟨x84, hx84, h15⟩ := bnd h15
      refine wl_op rfl (op_call_v (vs := [(Value.agg #[(Value.slice z148 m148 k148), (Value.slice z149 m149 k149)]), (Value.slice z3 m3 k3), (Value.int .i64 (s7.2)), (Value.int .i64 (s8))]) (r := (Value.bool (x84))) rfl ca64 rfl (args4 rfl rfl rfl rfl) I132 (fun Fr_ hF_ => F64_ok hF_ (Graph.rv (s := a0) r101 r102) (h1_.mono le1) hx84) (fun w66 I133 => ?_))
      refine wl_op rfl (op_not (b := x84) rfl rfl ?_)
      refine wl_nil ?_
      rcases ifs h15 with ⟨hc58, h15⟩ | ⟨hc58, h15⟩
      ·
       refine wp_cond_t (b := !x84) rfl hc58 ?_
       refine wp_skip' ?_
       refine wp_block' ?_
       refine wp_region' ?_
       refine wl_op rfl (op_move (v := (Value.int .i64 (s8))) rfl e494 ?_)
       refine wl_op rfl (op_add (a := s8) (b := 1) rfl rfl rfl ?_)
       refine wl_op rfl (op_assign (v := (Value.int .i64 (w64 (s8 + 1)))) rfl rfl ?_)
       refine wl_nil ?_
       obtain rfl := Option.some.inj h15
       exact ⟨_, rfl, I133, e490, e491, e492, e493, rfl⟩
      ·
       refine wp_cond_f (b := !x84) rfl hc58 ?_
       refine wp_exit' ?_
       obtain rfl := Option.some.inj h15
       obtain rfl := (hout8 _ rfl)
       exact ⟨I133, e490, e491, e492, e493, e494⟩
     ·
      rintro f w ⟨I134, e498, e499, e500, e501, e502⟩
      refine wp_region' ?_
      refine wl_op rfl (op_fieldAddr_t (v := (Value.pointer (some ⟨g1, 0, none⟩))) rfl fa25_1 e499 (p1.at_ I134) ?_)
      refine wl_op rfl (op_load (v := (fieldPtr (Value.pointer (some ⟨g1, 0, none⟩)) 1)) (e := a0.Edges) rfl sh23 rfl ((p1.at_ I134).fld Graph.fld1) (fun u91 hu77 => ?_))
      obtain ⟨z150, m150, k150, e503⟩ := rv_form hu77
      subst e503
      refine wl_op rfl (op_move (v := (Value.int .i64 (s7.2))) rfl e501 ?_)
      obtain ⟨x85, hx85, h13⟩ := bnd h13
      refine wl_op rfl (op_indexAddr_rv (v := (Value.slice z150 m150 k150)) (i := s7.2) (e := x85) rfl Try.underlying23 sh40 rfl hu77 rfl hx85 ?_)
      refine wl_op rfl (op_load (v := (elemPtr (Value.slice z150 m150 k150) (s7.2) (Enc.sz (List Edge)))) (e := x85) rfl sh40 rfl (hu77.elem I134.in_ hx85) (fun u92 hu78 => ?_))
      obtain ⟨z151, m151, k151, e504⟩ := rv_form hu78
      subst e504
      refine wl_op rfl (op_move (v := (Value.int .i64 (out8))) rfl e502 ?_)
      obtain ⟨x86, hx86, h13⟩ := bnd h13
      refine wl_op rfl (op_indexAddr_rv (v := (Value.slice z151 m151 k151)) (i := out8) (e := x86) rfl Try.underlying40 sh44 rfl hu78 rfl hx86 ?_)
      refine wl_op rfl (op_fieldAddr_t (v := (elemPtr (Value.slice z151 m151 k151) (out8) (Enc.sz Edge))) rfl fa44_1 rfl (hu78.elem I134.in_ hx86) ?_)
      refine wl_op rfl (op_load_int (v := (fieldPtr (elemPtr (Value.slice z151 m151 k151) (out8) (Enc.sz Edge)) 3)) (e := x86.To) rfl sh3 rfl ((hu78.elem I134.in_ hx86).fld Edge.fld1) ?_)
      refine wl_op rfl (op_assign (v := (Value.int .i64 (x86.To))) rfl rfl ?_)
      refine wl_nil ?_
      obtain rfl := Option.some.inj h13
      exact ⟨_, rfl, _, _, _, I134, e498, e499, e500, rfl⟩
    ·
     refine wp_cond_f (b := decide (0 < x75)) rfl hc51 ?_
     refine wp_exit' ?_
     obtain rfl := Option.some.inj h13
     obtain rfl := (hout7 _ rfl)
     exact ⟨_, _, _, I117, e434, e435, e436, e437⟩
   ·
    rintro f w ⟨z131, m131, k131, I135, e505, e506, e507, e508⟩
    refine wp_seq' ?_
    refine wp_region' ?_
    refine wl_op rfl (op_move (v := (Value.slice z131 m131 k131)) rfl e507 ?_)
    refine wl_op rfl (op_assign (v := (Value.slice z131 m131 k131)) rfl rfl ?_)
    refine wl_op rfl (op_assign (v := (Value.int .i64 (0))) rfl rfl ?_)
    refine wl_nil ?_
    refine wp_ret' ?_
    obtain rfl := Option.some.inj h
    exact ⟨(Value.tuple #[(Value.slice z131 m131 k131), (Value.int .i64 (0))]), (res2 rfl rfl rfl), _, [Row (α := Int) 3 (Value.slice z131 m131 k131) (out7.1)], le1, I135, _, _, _, rfl, rfl⟩

set_option maxHeartbeats 4000000 in
set_option maxRecDepth 100000 in
theorem F65_ok {w : World} {S : PH} {Fr : List HP} {a0 : Int} {r : Int} (hI : Inv w S (Fr))  (h : F65 a0 = some r) :
    Calls Try.prog 65 [(Value.int .i64 (a0))].toArray w (DoneV S Fr (Value.int .i64 (r))) := by
 unfold F65 at h
 refine calls_enter (n := 6) (vs := [(Value.int .i64 (a0))]) Try.func65 rfl rfl rfl ?_
 refine wp_seq' ?_
 refine wp_region' ?_
 refine wl_op rfl (op_assign (v := (Value.int .i64 (0))) rfl rfl ?_)
 refine wl_nil ?_
 refine wp_seq' ?_
 refine wp_seq' ?_
 refine wp_region' ?_
 refine wl_op rfl (op_move (v := (Value.int .i64 (a0))) rfl rfl ?_)
 refine wl_op rfl (op_eql (a := a0) (b := (-1)) rfl rfl rfl ?_)
 refine wl_nil ?_
 rcases ifs h with ⟨hc1, h⟩ | ⟨hc1, h⟩
 ·
  refine wp_cond_t (b := a0 == (-1)) rfl hc1 ?_
  refine wp_seq' ?_
  refine wp_region' ?_
  refine wl_op rfl (op_assign (v := (Value.int .i64 (1099511627776))) rfl rfl ?_)
  refine wl_nil ?_
  refine wp_ret' ?_
  obtain rfl := Option.some.inj h
  exact ⟨(Value.int .i64 (1099511627776)), (res1 rfl rfl), _, [], (PH.Le.refl _), hI, rfl, rfl⟩
 ·
  refine wp_cond_f (b := a0 == (-1)) rfl hc1 ?_
  refine wp_skip' ?_
  refine wp_seq' ?_
  refine wp_region' ?_
  refine wl_op rfl (op_move (v := (Value.int .i64 (a0))) rfl rfl ?_)
  refine wl_op rfl (op_assign (v := (Value.int .i64 (a0))) rfl rfl ?_)
  refine wl_nil ?_
  refine wp_ret' ?_
  obtain rfl := Option.some.inj h
  exact ⟨(Value.int .i64 (a0)), (res1 rfl rfl), _, [], (PH.Le.refl _), hI, rfl, rfl⟩

set_option maxHeartbeats 4000000 in
set_option maxRecDepth 100000 in
theorem F66_ok {w : World} {S : PH} {Fr : List HP} {a0 : Search_view} {v0 : Value} {r : (List Bool)} (hI : Inv w S (Fr)) (h0_ : RV S v0 a0) (h : F66 a0 = some r) :
    Calls Try.prog 66 [v0].toArray w (Done S Fr (fun T_ v_ O_ => ∃ (a0_ : Option Addr) (n0_ k0_ : Nat), v_ = (Value.slice a0_ n0_ k0_) ∧ O_ = [Row (α := Bool) 4 (Value.slice a0_ n0_ k0_) (r)])) := by
 unfold F66 at h
 obtain ⟨c1, c2, e1, r1, r2⟩ := Search_view.inv h0_
 subst e1
 obtain ⟨z1, m1, k1, e2⟩ := rv_form r1
 subst e2
 obtain ⟨z2, m2, k2, e3⟩ := rv_form r2
 subst e3
 refine calls_enter (n := 48) (vs := [(Value.agg #[(Value.slice z1 m1 k1), (Value.slice z2 m2 k2)])]) Try.func66 rfl rfl rfl ?_
 refine wp_seq' ?_
 refine wp_region' ?_
 refine wl_op rfl (op_box (v := (Value.agg #[(Value.slice z1 m1 k1), (Value.slice z2 m2 k2)])) rfl hI rfl (fun g1 w1 I1 => ?_))
 obtain ⟨S1, le1, I2, p1⟩ := Inv.boxFreeze (x := a0) I1 (Search_view.rv (s := a0) r1 r2)
 refine wl_op rfl (op_assign (v := (Value.slice none 0 0)) rfl rfl ?_)
 refine wl_nil ?_
 refine wp_seq' ?_
 refine wp_region' ?_
 refine wl_op rfl (op_fieldAddr_t (v := (Value.pointer (some ⟨g1, 0, none⟩))) rfl fa64_0 rfl (p1.at_ I2) ?_)
 refine wl_op rfl (op_load (v := (fieldPtr (Value.pointer (some ⟨g1, 0, none⟩)) 0)) (e := a0.edges) rfl sh23 rfl ((p1.at_ I2).fld Search_view.fld0) (fun u1 hu1 => ?_))
 obtain ⟨z3, m3, k3, e4⟩ := rv_form hu1
 subst e4
 refine wl_op rfl (op_len_rv rfl Try.underlying23 rfl hu1 ?_)
 obtain ⟨x1, hx1, h⟩ := bnd h
 refine wl_op rfl (op_makeSlice (c := (a0.edges.length : Int)) rfl Try.underlying72 el4 (by decide) rfl rfl I2 hx1 (fun u2 w2 I3 => ?_))
 obtain ⟨z4, m4, k4, e5⟩ := row_form I3
 subst e5
 refine wl_op rfl (op_assign (v := (Value.slice z4 m4 k4)) rfl rfl ?_)
 refine wl_nil ?_
 refine wp_seq' ?_
 refine wp_region' ?_
 refine wl_op rfl (op_move (v := (Value.slice z4 m4 k4)) rfl rfl ?_)
 obtain ⟨x2, hx2, h⟩ := bnd h
 refine wl_op rfl (op_indexAddr_src (v := (Value.slice z4 m4 k4)) (i := 0) (e := x2) rfl Try.underlying72 sh4 rfl (Inv.rowSrc (I3.nth 0 rfl)) rfl hx2 ?_)
 refine wl_op rfl (op_storeRow (u := (Value.bool (true))) (e' := true) sh4 I3 rfl rfl hx2 (rv_bool' _) (fun w3 I4 => ?_))
 refine wl_nil ?_
 refine wp_seq' ?_
 refine wp_seq' ?_
 refine wp_region' ?_
 refine wl_op rfl (op_buildSlice (vs := [(Value.int .i64 (0))]) (r := ([0] : List Int)) rfl Try.underlying26 el3 (parts1 rfl) rfl (by decide) (by decide) ⟨(rv_int' _), trivial⟩ I4 (fun u3 w4 I5 => ?_))
 obtain ⟨z5, m5, k5, e6⟩ := row_form I5
 subst e6
 refine wl_op rfl (op_assign (v := (Value.slice z5 m5 k5)) rfl rfl ?_)
 refine wl_nil ?_
 obtain ⟨out7, hrun7, h⟩ := bnd h
 refine wp_cutN (fun f w => ∃ (S_ : PH) (z131 : Option Addr) (m131 k131 : Nat), S1.Le S_ ∧ Inv w S_ (Row (α := Bool) 4 (Value.slice z4 m4 k4) (out7.1) :: Row (α := Int) 3 (Value.slice z131 m131 k131) (out7.2) :: Fr) ∧ f 1 = (Value.pointer (some ⟨g1, 0, none⟩)) ∧ f 3 = (Value.slice z4 m4 k4) ∧ f 4 = (Value.slice z131 m131 k131)) ?_ ?_
 ·
  refine wp_block' ?_
  refine wp_whileO (I := fun (s7 : (List Bool × List Int)) (f : Frm) (w : World) => ∃ (S_ : PH) (z130 : Option Addr) (m130 k130 : Nat), S1.Le S_ ∧ Inv w S_ (Row (α := Bool) 4 (Value.slice z4 m4 k4) (s7.1) :: Row (α := Int) 3 (Value.slice z130 m130 k130) (s7.2) :: Fr) ∧ f 1 = (Value.pointer (some ⟨g1, 0, none⟩)) ∧ f 3 = (Value.slice z4 m4 k4) ∧ f 4 = (Value.slice z130 m130 k130)) hrun7 ⟨_, _, _, _, (PH.Le.refl _), (I5.pull 1), rfl, rfl, rfl⟩ ?_
  rintro s7 f w o7 hI73 h13 hout7
  obtain ⟨S66, z130, m130, k130, le66, I234, e367, e368, e369⟩ := hI73
  refine wp_seq' ?_
  refine wp_seq' ?_
  refine wp_region' ?_
  refine wl_op rfl (op_move (v := (Value.slice z130 m130 k130)) rfl e369 ?_)
  refine wl_op rfl (op_len_row (α := Int) rfl Try.underlying26 rfl (I234.nth 1 rfl) ?_)
  refine wl_op rfl (op_gtr (a := (s7.2.length : Int)) (b := 0) rfl rfl rfl ?_)
  refine wl_nil ?_
  rcases ifs h13 with ⟨hc31, h13⟩ | ⟨hc31, h13⟩
  ·
   refine wp_cond_t (b := decide (0 < (s7.2.length : Int))) rfl hc31 ?_
   refine wp_skip' ?_
   refine wp_seq' ?_
   refine wp_block' ?_
   refine wp_seq' ?_
   obtain ⟨x117, hx117, h13⟩ := bnd h13
   obtain ⟨x118, hx118, h13⟩ := bnd h13
   refine wp_draw (sps := [⟨some 19, [], [0], fun vs_ T_ => fr0 vs_ 0 = (fieldPtr (Value.pointer (some ⟨g1, 0, none⟩)) 0), [], [], [], fun _ h_ => h_⟩, ⟨some 20, [0], [1], fun vs_ T_ => RV T_ (fr0 vs_ 0) a0.edges, [], [], [], fun hle_ h_ => h_.mono hle_⟩, ⟨some 21, [], [2], fun vs_ T_ => fr0 vs_ 0 = (Value.slice z130 m130 k130), [], [], [], fun _ h_ => h_⟩, ⟨some 22, [2], [3], fun vs_ T_ => fr0 vs_ 0 = (elemPtr (Value.slice z130 m130 k130) (0) (Enc.sz Int)), [0], [], [], fun _ h_ => h_⟩, ⟨some 23, [2, 3], [4], fun vs_ T_ => fr0 vs_ 0 = (Value.int .i64 (x117)), [0], [], [], fun _ h_ => h_⟩, ⟨some 24, [0, 1, 2, 3, 4], [5, 1], fun vs_ T_ => fr0 vs_ 0 = (elemPtr (fr0 vs_ 1) (x117) (Enc.sz (List Edge))), [], [], [], fun _ h_ => h_⟩, ⟨some 25, [0, 1, 2, 3, 4, 5], [6], fun vs_ T_ => RV T_ (fr0 vs_ 0) x118, [], [], [], fun hle_ h_ => h_.mono hle_⟩, ⟨some 26, [0, 1, 2, 3, 4, 5, 6], [7], fun vs_ T_ => fr0 vs_ 0 = (Value.int .i64 ((x118.length : Int))), [], [], [], fun _ h_ => h_⟩, ⟨some 27, [], [8], fun vs_ T_ => fr0 vs_ 0 = (Value.int .i64 (0)), [], [], [], fun _ h_ => h_⟩]) (tks := [⟨none, none, [], fun vs_ => Row (α := Int) 3 (Value.slice z130 m130 k130) (s7.2)⟩]) (O := Row (α := Bool) 4 (Value.slice z4 m4 k4) (s7.1) :: Fr) rfl (by kernel_rfl) (I234.pull 1) ⟨?_, ?_, ?_, ?_, ?_, ?_, ?_, ?_, ?_, trivial⟩ ?_
   ·
    intro vs61 f w186 S67 X55 le67 hA55 hK61 hI74
    have I235 : Inv w186 S67 (X55) := hI74
    refine opg_plain rfl rfl (op_fieldAddr_t (v := (Value.pointer (some ⟨g1, 0, none⟩))) rfl fa64_0 ((hK61 1 (keep_of rfl)).trans e367) ((p1.mono (le66.trans le67)).at_ I235) ?_)
    refine ⟨_, _, rfl, PH.Le.refl _, ?_, ?_⟩
    ·
     exact rfl
    ·
     exact I235
   ·
    intro vs62 f w187 S68 X56 le68 hA56 hK62 hI75
    have I236 : Inv w187 S68 (X56) := hI75
    have q73 : f 19 = (fieldPtr (Value.pointer (some ⟨g1, 0, none⟩)) 0) := vt (hA56.at_ 0 rfl _ rfl) rfl
    refine opg_plain rfl rfl (op_load (v := (fieldPtr (Value.pointer (some ⟨g1, 0, none⟩)) 0)) (e := a0.edges) rfl sh23 q73 (((p1.mono (le66.trans le68)).at_ I236).fld Search_view.fld0) (fun u132 hu82 => ?_))
    obtain ⟨z132, m132, k132, e370⟩ := rv_form hu82
    subst e370
    refine ⟨_, _, rfl, PH.Le.refl _, ?_, ?_⟩
    ·
     exact hu82
    ·
     exact I236
   ·
    intro vs63 f w188 S69 X57 le69 hA57 hK63 hI76
    have I237 : Inv w188 S69 (X57) := hI76
    refine opg_plain rfl rfl (op_move (v := (Value.slice z130 m130 k130)) rfl ((hK63 4 (keep_of rfl)).trans e369) ?_)
    refine ⟨_, _, rfl, PH.Le.refl _, ?_, ?_⟩
    ·
     exact rfl
    ·
     exact I237
   ·
    intro vs64 f w189 S70 X58 le70 hA58 hK64 hI77
    have I238 : Inv w189 S70 (Row (α := Int) 3 (Value.slice z130 m130 k130) (s7.2) :: X58) := hI77
    have q74 : f 21 = (Value.slice z130 m130 k130) := vt (hA58.at_ 0 rfl _ rfl) rfl
    refine opg_plain rfl rfl (op_indexAddr_src (v := (Value.slice z130 m130 k130)) (i := 0) (e := x117) rfl Try.underlying26 sh3 q74 (Inv.rowSrc (I238.nth 0 rfl)) rfl hx117 ?_)
    refine ⟨_, _, rfl, PH.Le.refl _, ?_, ?_⟩
    ·
     exact rfl
    ·
     exact I238
   ·
    intro vs65 f w190 S71 X59 le71 hA59 hK65 hI78
    have I239 : Inv w190 S71 (Row (α := Int) 3 (Value.slice z130 m130 k130) (s7.2) :: X59) := hI78
    have q75 : f 22 = (elemPtr (Value.slice z130 m130 k130) (0) (Enc.sz Int)) := vt (hA59.at_ 1 rfl _ rfl) rfl
    refine opg_plain rfl rfl (op_load_int (v := (elemPtr (Value.slice z130 m130 k130) (0) (Enc.sz Int))) (e := x117) rfl sh3 q75 ((I239.nth 0 rfl).rowElem hx117) ?_)
    refine ⟨_, _, rfl, PH.Le.refl _, ?_, ?_⟩
    ·
     exact rfl
    ·
     exact I239
   ·
    intro vs66 f w191 S72 X60 le72 hA60 hK66 hI79
    have I240 : Inv w191 S72 (X60) := hI79
    have q76 : f 20 = vs66 1 := (hA60.at_ 1 rfl _ rfl).1 _ rfl
    have r27 : RV S72 (vs66 1) a0.edges := (hA60.at_ 1 rfl _ rfl).2
    obtain ⟨u133, hu83⟩ : ∃ u, vs66 1 = u := ⟨_, rfl⟩
    rw [hu83] at q76 r27
    obtain ⟨z133, m133, k133, e371⟩ := rv_form r27
    subst e371
    have q77 : f 23 = (Value.int .i64 (x117)) := vt (hA60.at_ 4 rfl _ rfl) rfl
    refine opg_plain rfl rfl (op_indexAddr_rv (v := (Value.slice z133 m133 k133)) (i := x117) (e := x118) rfl Try.underlying23 sh40 q76 r27 q77 hx118 ?_)
    refine ⟨_, _, rfl, PH.Le.refl _, ?_, ?_⟩
    ·
     show (elemPtr (Value.slice z133 m133 k133) (x117) (Enc.sz (List Edge))) = (elemPtr (vs66 1) (x117) (Enc.sz (List Edge)))
     simp only [hu83] <;> rfl
    ·
     exact I240
   ·
    intro vs67 f w192 S73 X61 le73 hA61 hK67 hI80
    have I241 : Inv w192 S73 (X61) := hI80
    have q78 : f 20 = vs67 1 := (hA61.at_ 1 rfl _ rfl).1 _ rfl
    have r28 : RV S73 (vs67 1) a0.edges := (hA61.at_ 1 rfl _ rfl).2
    obtain ⟨u134, hu84⟩ : ∃ u, vs67 1 = u := ⟨_, rfl⟩
    rw [hu84] at q78 r28
    obtain ⟨z134, m134, k134, e372⟩ := rv_form r28
    subst e372
    have q79 : f 23 = (Value.int .i64 (x117)) := vt (hA61.at_ 4 rfl _ rfl) rfl
    have q80 : f 24 = (elemPtr (vs67 1) (x117) (Enc.sz (List Edge))) := vt (hA61.at_ 5 rfl _ rfl) rfl
    simp only [hu84] at q80
    have q80 : f 24 = (elemPtr (Value.slice z134 m134 k134) (x117) (Enc.sz (List Edge))) := q80
    refine opg_plain rfl rfl (op_load (v := (elemPtr (Value.slice z134 m134 k134) (x117) (Enc.sz (List Edge)))) (e := x118) rfl sh40 q80 (r28.elem I241.in_ hx118) (fun u135 hu85 => ?_))
    obtain ⟨z135, m135, k135, e373⟩ := rv_form hu85
    subst e373
    refine ⟨_, _, rfl, PH.Le.refl _, ?_, ?_⟩
    ·
     exact hu85
    ·
     exact I241
   ·
    intro vs68 f w193 S74 X62 le74 hA62 hK68 hI81
    have I242 : Inv w193 S74 (X62) := hI81
    have q81 : f 25 = vs68 6 := (hA62.at_ 6 rfl _ rfl).1 _ rfl
    have r29 : RV S74 (vs68 6) x118 := (hA62.at_ 6 rfl _ rfl).2
    obtain ⟨u136, hu86⟩ : ∃ u, vs68 6 = u := ⟨_, rfl⟩
    rw [hu86] at q81 r29
    obtain ⟨z136, m136, k136, e374⟩ := rv_form r29
    subst e374
    refine opg_plain rfl rfl (op_len_rv rfl Try.underlying40 q81 r29 ?_)
    refine ⟨_, _, rfl, PH.Le.refl _, ?_, ?_⟩
    ·
     exact rfl
    ·
     exact I242
   ·
    intro vs69 f w194 S75 X63 le75 hA63 hK69 hI82
    have I243 : Inv w194 S75 (X63) := hI82
    refine opg_plain rfl rfl (op_move (v := (Value.int .i64 (0))) rfl rfl ?_)
    refine ⟨_, _, rfl, PH.Le.refl _, ?_, ?_⟩
    ·
     exact rfl
    ·
     exact I243
   ·
    intro vs70 f w195 S76 le76 hF7 hK70 hI83
    have e375 : f 1 = (Value.pointer (some ⟨g1, 0, none⟩)) := (hK70 1 (keep_all rfl)).trans e367
    have e376 : f 3 = (Value.slice z4 m4 k4) := (hK70 3 (keep_all rfl)).trans e368
    have e377 : f 4 = (Value.slice z130 m130 k130) := (hK70 4 (keep_all rfl)).trans e369
    have I244 : Inv w195 S76 (Row (α := Int) 3 (Value.slice z130 m130 k130) (s7.2) :: Row (α := Bool) 4 (Value.slice z4 m4 k4) (s7.1) :: Fr) := hI83
    have q82 : f 25 = vs70 6 := (hF7.at_ 6 rfl _ rfl).1 _ rfl
    have r30 : RV S76 (vs70 6) x118 := (hF7.at_ 6 rfl _ rfl).2
    obtain ⟨u137, hu87⟩ : ∃ u, vs70 6 = u := ⟨_, rfl⟩
    rw [hu87] at q82 r30
    obtain ⟨z137, m137, k137, e378⟩ := rv_form r30
    subst e378
    have q83 : f 26 = (Value.int .i64 ((x118.length : Int))) := vt (hF7.at_ 7 rfl _ rfl) rfl
    have q84 : f 27 = (Value.int .i64 (0)) := vt (hF7.at_ 8 rfl _ rfl) rfl
    have hk7 : x118.length ≤ 9223372036854775807 := (rv_len r30)
    obtain ⟨out8, hrun8, h13⟩ := bnd h13
    refine wp_cutN (fun f w => ∃ (z147 : Option Addr) (m147 k147 : Nat), Inv w S76 (Row (α := Bool) 4 (Value.slice z4 m4 k4) (out8.1) :: Row (α := Int) 3 (Value.slice z147 m147 k147) (out8.2) :: Fr) ∧ f 1 = (Value.pointer (some ⟨g1, 0, none⟩)) ∧ f 3 = (Value.slice z4 m4 k4) ∧ f 4 = (Value.slice z147 m147 k147) ∧ f 25 = (Value.slice z137 m137 k137) ∧ f 26 = (Value.int .i64 ((x118.length : Int)))) ?_ ?_
    ·
     refine wp_block' ?_
     refine wp_forS (I := fun (i7 : Nat) (s8 : (List Bool × List Int)) (f : Frm) (w : World) => ∃ (z146 : Option Addr) (m146 k146 : Nat), Inv w S76 (Row (α := Bool) 4 (Value.slice z4 m4 k4) (s8.1) :: Row (α := Int) 3 (Value.slice z146 m146 k146) (s8.2) :: Fr) ∧ f 1 = (Value.pointer (some ⟨g1, 0, none⟩)) ∧ f 3 = (Value.slice z4 m4 k4) ∧ f 4 = (Value.slice z146 m146 k146) ∧ f 25 = (Value.slice z137 m137 k137) ∧ f 26 = (Value.int .i64 ((x118.length : Int))) ∧ f 27 = (Value.int .i64 (i7 : Int))) hrun8 ⟨_, _, _, (I244.pull 1), e375, e376, e377, q82, q83, q84⟩ ?_ ?_
     ·
      rintro i7 s8 f w o8 hlt7 hI84 h15
      obtain ⟨z146, m146, k146, I263, e406, e407, e408, e409, e410, e411⟩ := hI84
      refine wp_seq' ?_
      refine wp_region' ?_
      refine wl_op rfl (op_lss (a := (i7 : Int)) (b := (x118.length : Int)) rfl e411 e410 ?_)
      refine wl_nil ?_
      refine wp_seq' ?_
      refine wp_cond_t (b := decide ((i7 : Int) < (x118.length : Int))) rfl (len_t hlt7) ?_
      refine wp_skip' ?_
      refine wp_seq' ?_
      refine wp_block' ?_
      refine wp_seq' ?_
      refine wp_region' ?_
      obtain ⟨x131, hx131, h15⟩ := bnd h15
      refine wl_op rfl (op_indexAddr_rv (v := (Value.slice z137 m137 k137)) (i := (i7 : Int)) (e := x131) rfl Try.underlying40 sh44 e409 r30 e411 hx131 ?_)
      refine wl_op rfl (op_load (v := (elemPtr (Value.slice z137 m137 k137) ((i7 : Int)) (Enc.sz Edge))) (e := x131) rfl sh44 rfl (r30.elem I263.in_ hx131) (fun u147 hu91 => ?_))
      have e412 := Edge.inv hu91
      subst e412
      refine wl_op rfl (op_alloc (z := (Value.agg #[(Value.int .i64 (0)), (Value.int .i64 (0)), (Value.int .i64 (0)), (Value.int .i64 (0))])) rfl I263 zo44 (fun g29 w211 (I264 : Inv w211 S76 (Cells g29 44 #[(Value.int .i64 (0)), (Value.int .i64 (0)), (Value.int .i64 (0)), (Value.int .i64 (0))] :: Row (α := Bool) 4 (Value.slice z4 m4 k4) (s8.1) :: Row (α := Int) 3 (Value.slice z146 m146 k146) (s8.2) :: Fr)) => ?_))
      refine wl_op rfl (op_store (v := (Value.agg #[(Value.int .i64 (x131.Move.Player)), (Value.int .i64 (x131.Move.Kind)), (Value.int .i64 (x131.Move.Number)), (Value.int .i64 (x131.To))])) (cs := #[(Value.int .i64 (0)), (Value.int .i64 (0)), (Value.int .i64 (0)), (Value.int .i64 (0))]) sh44 I264 rfl rfl rfl (Nat.le_of_ble_eq_true rfl) rfl (fun w212 (I265 : Inv w212 S76 (Cells g29 44 #[(Value.int .i64 (x131.Move.Player)), (Value.int .i64 (x131.Move.Kind)), (Value.int .i64 (x131.Move.Number)), (Value.int .i64 (x131.To))] :: Row (α := Bool) 4 (Value.slice z4 m4 k4) (s8.1) :: Row (α := Int) 3 (Value.slice z146 m146 k146) (s8.2) :: Fr)) => ?_))
      refine wl_nil ?_
      refine wp_seq' ?_
      refine wp_region' ?_
      refine wl_op rfl (op_move (v := (Value.slice z4 m4 k4)) rfl e407 ?_)
      refine wl_op rfl (op_fieldAddr (v := (Value.pointer (some ⟨g29, 0, none⟩))) rfl fa44_1 rfl rfl ?_)
      refine wl_op rfl (op_load1 (c := (Value.int .i64 (x131.To))) rfl sh3 (I265.nth 0 rfl) rfl rfl ?_)
      obtain ⟨x132, hx132, h15⟩ := bnd h15
      refine wl_op rfl (op_indexAddr_src (v := (Value.slice z4 m4 k4)) (i := x131.To) (e := x132) rfl Try.underlying72 sh4 rfl (Inv.rowSrc (I265.nth 1 rfl)) rfl hx132 ?_)
      refine wl_op rfl (op_load_bool (v := (elemPtr (Value.slice z4 m4 k4) (x131.To) (Enc.sz Bool))) (e := x132) rfl sh4 rfl ((I265.nth 1 rfl).rowElem hx132) ?_)
      refine wl_op rfl (op_not (b := x132) rfl rfl ?_)
      refine wl_nil ?_
      rcases ifs h15 with ⟨hc35, h15⟩ | ⟨hc35, h15⟩
      ·
       refine wp_cond_t (b := !x132) rfl hc35 ?_
       refine wp_seq' ?_
       refine wp_region' ?_
       refine wl_op rfl (op_move (v := (Value.slice z4 m4 k4)) rfl e407 ?_)
       refine wl_op rfl (op_fieldAddr (v := (Value.pointer (some ⟨g29, 0, none⟩))) rfl fa44_1 rfl rfl ?_)
       refine wl_op rfl (op_load1 (c := (Value.int .i64 (x131.To))) rfl sh3 (I265.nth 0 rfl) rfl rfl ?_)
       obtain ⟨x133, hx133, h15⟩ := bnd h15
       refine wl_op rfl (op_indexAddr_src (v := (Value.slice z4 m4 k4)) (i := x131.To) (e := x133) rfl Try.underlying72 sh4 rfl (Inv.rowSrc (I265.nth 1 rfl)) rfl hx133 ?_)
       refine wl_op rfl (op_storeRow (u := (Value.bool (true))) (e' := true) sh4 (I265.pull 1) rfl rfl hx133 (rv_bool' _) (fun w213 I266 => ?_))
       refine wl_nil ?_
       refine wp_region' ?_
       refine wl_op rfl (op_move (v := (Value.slice z146 m146 k146)) rfl e408 ?_)
       refine wl_op rfl (op_fieldAddr (v := (Value.pointer (some ⟨g29, 0, none⟩))) rfl fa44_1 rfl rfl ?_)
       refine wl_op rfl (op_load1 (c := (Value.int .i64 (x131.To))) rfl sh3 (I266.nth 1 rfl) rfl rfl ?_)
       refine wl_op rfl (op_buildSlice (vs := [(Value.int .i64 (x131.To))]) (r := ([x131.To] : List Int)) rfl Try.underlying26 el3 (parts1 rfl) rfl (by decide) (by decide) ⟨(rv_int' _), trivial⟩ I266 (fun u148 w214 I267 => ?_))
       obtain ⟨z148, m148, k148, e413⟩ := row_form I267
       subst e413
       obtain ⟨x134, hx134, h15⟩ := bnd h15
       refine wl_op rfl (op_append (α := Int) (v := (Value.slice z146 m146 k146)) (u := (Value.slice z148 m148 k148)) rfl rfl Try.underlying26 el3 (by decide) (by decide) rfl rfl (I267.pull 3) (Inv.rowSrc (I267.nth 0 rfl)) hx134 (fun u149 w215 I268 => ?_))
       obtain ⟨z149, m149, k149, e414⟩ := row_form I268
       subst e414
       refine wl_op rfl (op_assign (v := (Value.slice z149 m149 k149)) rfl rfl ?_)
       refine wl_nil ?_
       refine wp_region' ?_
       refine wl_op rfl (op_add (a := (i7 : Int)) (b := 1) rfl e411 rfl ?_)
       refine wl_op rfl (op_move (v := (Value.int .i64 (w64 ((i7 : Int) + 1)))) rfl rfl ?_)
       refine wl_nil ?_
       obtain rfl := Option.some.inj h15
       exact ⟨_, _, _, (((I268.pull 1).drop.pull 2).drop.pull 1), e406, e407, rfl, e409, e410, (idx_next hlt7 hk7)⟩
      ·
       refine wp_cond_f (b := !x132) rfl hc35 ?_
       refine wp_skip' ?_
       refine wp_region' ?_
       refine wl_op rfl (op_add (a := (i7 : Int)) (b := 1) rfl e411 rfl ?_)
       refine wl_op rfl (op_move (v := (Value.int .i64 (w64 ((i7 : Int) + 1)))) rfl rfl ?_)
       refine wl_nil ?_
       obtain rfl := Option.some.inj h15
       exact ⟨_, _, _, (((I265).drop.pull 1).pull 1), e406, e407, e408, e409, e410, (idx_next hlt7 hk7)⟩
     ·
      rintro f w hI85
      obtain ⟨z150, m150, k150, I269, e415, e416, e417, e418, e419, e420⟩ := hI85
      refine wp_seq' ?_
      refine wp_region' ?_
      refine wl_op rfl (op_lss (a := (x118.length : Int)) (b := (x118.length : Int)) rfl e420 e419 ?_)
      refine wl_nil ?_
      refine wp_seq' ?_
      refine wp_cond_f (b := decide ((x118.length : Int) < (x118.length : Int))) rfl (len_f _) ?_
      refine wp_exit' ?_
      exact ⟨_, _, _, ((I269.pull 1).pull 1), e415, e416, e417, e418, e419⟩
    ·
     rintro f w ⟨z147, m147, k147, I270, e421, e422, e423, e424, e425⟩
     refine wp_region' ?_
     refine wl_op rfl (op_move (v := (Value.slice z147 m147 k147)) rfl e423 ?_)
     obtain ⟨x135, hx135, h13⟩ := bnd h13
     refine wl_op rfl (op_sliceL_row (v := (Value.slice z147 m147 k147)) (lo := 1) rfl Try.underlying26 sh3 rfl (I270.pull 1) rfl hx135 (fun u150 I271 => ?_))
     obtain ⟨z151, m151, k151, e426⟩ := row_form I271
     subst e426
     refine wl_op rfl (op_assign (v := (Value.slice z151 m151 k151)) rfl rfl ?_)
     refine wl_nil ?_
     obtain rfl := Option.some.inj h13
     exact ⟨_, rfl, _, _, _, _, (le66.trans le76), (I271.pull 1), e421, e422, rfl⟩
  ·
   refine wp_cond_f (b := decide (0 < (s7.2.length : Int))) rfl hc31 ?_
   refine wp_exit' ?_
   obtain rfl := Option.some.inj h13
   obtain rfl := (hout7 _ rfl)
   exact ⟨_, _, _, _, le66, ((I234.pull 1).pull 1), e367, e368, e369⟩
 ·
  rintro f w ⟨S77, z131, m131, k131, le77, I272, e427, e428, e429⟩
  refine wp_seq' ?_
  refine wp_region' ?_
  refine wl_op rfl (op_move (v := (Value.slice z4 m4 k4)) rfl e428 ?_)
  refine wl_op rfl (op_assign (v := (Value.slice z4 m4 k4)) rfl rfl ?_)
  refine wl_nil ?_
  refine wp_ret' ?_
  obtain rfl := Option.some.inj h
  exact ⟨(Value.slice z4 m4 k4), (res1 rfl rfl), _, [Row (α := Bool) 4 (Value.slice z4 m4 k4) (out7.1)], (le1.trans le77), (I272.pull 1).drop, _, _, _, rfl, rfl⟩

set_option maxHeartbeats 4000000 in
set_option maxRecDepth 100000 in
theorem F42_ok {w : World} {S : PH} {Fr : List HP} {a0 : Graph} {v0 : Value} {a1 : (List Int)} {v1 : Value} {r : Int × Int × Int} (hI : Inv w S (Fr)) (h0_ : RV S v0 a0) (h1_ : RV S v1 a1) (h : F42 a0 a1 = some r) :
    Calls Try.prog 42 [v0, v1].toArray w (DoneV S Fr (Value.tuple #[(Value.int .i64 (r.1)), (Value.int .i64 (r.2.1)), (Value.int .i64 (r.2.2))])) := by
 unfold F42 at h
 obtain ⟨c1, c2, e1, r1, r2⟩ := Graph.inv h0_
 subst e1
 obtain ⟨z1, m1, k1, e2⟩ := rv_form r1
 subst e2
 obtain ⟨z2, m2, k2, e3⟩ := rv_form r2
 subst e3
 obtain ⟨z3, m3, k3, e4⟩ := rv_form h1_
 subst e4
 refine calls_enter (n := 79) (vs := [(Value.agg #[(Value.slice z1 m1 k1), (Value.slice z2 m2 k2)]), (Value.slice z3 m3 k3)]) Try.func42 rfl rfl rfl ?_
 refine wp_seq' ?_
 refine wp_region' ?_
 refine wl_op rfl (op_box (v := (Value.agg #[(Value.slice z1 m1 k1), (Value.slice z2 m2 k2)])) rfl hI rfl (fun g1 w1 I1 => ?_))
 obtain ⟨S1, le1, I2, p1⟩ := Inv.boxFreeze (x := a0) I1 (Graph.rv (s := a0) r1 r2)
 refine wl_op rfl (op_assign (v := (Value.int .i64 (0))) rfl rfl ?_)
 refine wl_op rfl (op_assign (v := (Value.int .i64 (0))) rfl rfl ?_)
 refine wl_op rfl (op_assign (v := (Value.int .i64 (0))) rfl rfl ?_)
 refine wl_nil ?_
 refine wp_seq' ?_
 refine wp_region' ?_
 refine wl_op rfl (op_load (v := (Value.pointer (some ⟨g1, 0, none⟩))) (e := a0) rfl sh25 rfl (p1.at_ I2) (fun u1 hu1 => ?_))
 obtain ⟨c3, c4, e5, r3, r4⟩ := Graph.inv hu1
 subst e5
 obtain ⟨z4, m4, k4, e6⟩ := rv_form r3
 subst e6
 obtain ⟨z5, m5, k5, e7⟩ := rv_form r4
 subst e7
 refine wl_op rfl (op_move (v := (Value.slice z3 m3 k3)) rfl rfl ?_)
 obtain ⟨x1, hx1, h⟩ := bnd h
 refine wl_op rfl (op_call (vs := [(Value.agg #[(Value.slice z4 m4 k4), (Value.slice z5 m5 k5)]), (Value.slice z3 m3 k3)]) rfl ca57 rfl (args2 rfl rfl) (F57_ok I2 (Graph.rv (s := a0) r3 r4) (h1_.mono le1) hx1) (fun v1 w2 S2 O1 le2 I3 hv1 => ?_))
 obtain ⟨c5, rfl, rfl, r5⟩ := hv1
 obtain ⟨c6, c7, e8, r6, r7⟩ := Search_view.inv r5
 subst e8
 obtain ⟨z6, m6, k6, e9⟩ := rv_form r6
 subst e9
 obtain ⟨z7, m7, k7, e10⟩ := rv_form r7
 subst e10
 refine wl_op rfl (op_move (v := (Value.tuple #[(Value.agg #[(Value.slice z6 m6 k6), (Value.slice z7 m7 k7)]), (Value.int .i64 (x1.2))])) rfl rfl ?_)
 refine wl_op rfl (op_extract (v := (Value.agg #[(Value.slice z6 m6 k6), (Value.slice z7 m7 k7)])) rfl rfl rfl ?_)
 refine wl_op rfl (op_extract (v := (Value.int .i64 (x1.2))) rfl rfl rfl ?_)
 refine wl_op rfl (op_alloc (z := (Value.agg #[(Value.slice none 0 0), (Value.slice none 0 0)])) rfl I3 zo64 (fun g2 w3 (I4 : Inv w3 S2 (Cells g2 64 #[(Value.slice none 0 0), (Value.slice none 0 0)] :: Fr)) => ?_))
 refine wl_op rfl (op_store (v := (Value.agg #[(Value.slice z6 m6 k6), (Value.slice z7 m7 k7)])) (cs := #[(Value.slice none 0 0), (Value.slice none 0 0)]) sh64 I4 rfl rfl rfl (Nat.le_of_ble_eq_true rfl) rfl (fun w4 (I5 : Inv w4 S2 (Cells g2 64 #[(Value.slice z6 m6 k6), (Value.slice z7 m7 k7)] :: Fr)) => ?_))
 refine wl_op rfl (op_assign (v := (Value.int .i64 (x1.2))) rfl rfl ?_)
 refine wl_nil ?_
 refine wp_seq' ?_
 refine wp_seq' ?_
 refine wp_region' ?_
 refine wl_op rfl (op_move (v := (Value.int .i64 (x1.2))) rfl rfl ?_)
 refine wl_op rfl (op_neq (a := x1.2) (b := 0) rfl rfl rfl ?_)
 refine wl_nil ?_
 rcases ifs h with ⟨hc1, h⟩ | ⟨hc1, h⟩
 ·
  refine wp_cond_t (b := x1.2 != 0) rfl hc1 ?_
  refine wp_seq' ?_
  refine wp_region' ?_
  refine wl_op rfl (op_move (v := (Value.int .i64 (x1.2))) rfl rfl ?_)
  refine wl_op rfl (op_assign (v := (Value.int .i64 (0))) rfl rfl ?_)
  refine wl_op rfl (op_assign (v := (Value.int .i64 (0))) rfl rfl ?_)
  refine wl_op rfl (op_assign (v := (Value.int .i64 (x1.2))) rfl rfl ?_)
  refine wl_nil ?_
  refine wp_ret' ?_
  obtain rfl := Option.some.inj h
  exact ⟨(Value.tuple #[(Value.int .i64 (0)), (Value.int .i64 (0)), (Value.int .i64 (x1.2))]), (res3 rfl rfl rfl rfl), _, [], (le1.trans le2), (I5).drop, rfl, rfl⟩
 ·
  refine wp_cond_f (b := x1.2 != 0) rfl hc1 ?_
  refine wp_skip' ?_
  refine wp_seq' ?_
  refine wp_region' ?_
  refine wl_op rfl (op_assign (v := (Value.func (.func 65) #[] #[])) rfl rfl ?_)
  refine wl_nil ?_
  refine wp_seq' ?_
  refine wp_region' ?_
  refine wl_op rfl (op_assign (v := (Value.int .i64 (0))) rfl rfl ?_)
  refine wl_nil ?_
  refine wp_seq' ?_
  refine wp_seq' ?_
  refine wp_region' ?_
  refine wl_op rfl (op_loadN (l := [(Value.slice z6 m6 k6), (Value.slice z7 m7 k7)]) rfl sh64 (I5.nth 0 rfl) rfl rfl rfl ?_)
  obtain ⟨x2, hx2, h⟩ := bnd h
  refine wl_op rfl (op_call (vs := [(Value.agg #[(Value.slice z6 m6 k6), (Value.slice z7 m7 k7)])]) rfl ca66 rfl (args1 rfl) (F66_ok I5 (Search_view.rv (s := x1.1) r6 r7) hx2) (fun v2 w5 S3 O2 le3 I6 hv2 => ?_))
  obtain ⟨z8, m8, k8, rfl, rfl⟩ := hv2
  refine wl_op rfl (op_len_row (α := Bool) rfl Try.underlying72 rfl (I6.nth 0 rfl) ?_)
  refine wl_op rfl (op_move (v := (Value.int .i64 (0))) rfl rfl ?_)
  refine wl_nil ?_
  have hk4 : x2.length ≤ 9223372036854775807 := (row_len (I6.nth 0 rfl))
  obtain ⟨out4, hrun4, h⟩ := bnd h
  refine wp_cutN (fun f w => Inv w S3 (Cells g2 64 #[(Value.slice z6 m6 k6), (Value.slice z7 m7 k7)] :: Row (α := Bool) 4 (Value.slice z8 m8 k8) (x2) :: Fr) ∧ f 1 = (Value.slice z3 m3 k3) ∧ f 4 = (Value.int .i64 (out4.1)) ∧ f 5 = (Value.int .i64 (out4.2.1)) ∧ f 7 = (Value.pointer (some ⟨g2, 0, none⟩)) ∧ f 8 = (Value.func (.func 65) #[] #[]) ∧ f 9 = (Value.int .i64 (out4.2.2)) ∧ f 25 = (Value.slice z8 m8 k8) ∧ f 26 = (Value.int .i64 ((x2.length : Int)))) ?_ ?_
  ·
   refine wp_block' ?_
   refine wp_forS (I := fun (i4 : Nat) (s4 : (Int × Int × Int)) (f : Frm) (w : World) => Inv w S3 (Cells g2 64 #[(Value.slice z6 m6 k6), (Value.slice z7 m7 k7)] :: Row (α := Bool) 4 (Value.slice z8 m8 k8) (x2) :: Fr) ∧ f 1 = (Value.slice z3 m3 k3) ∧ f 4 = (Value.int .i64 (s4.1)) ∧ f 5 = (Value.int .i64 (s4.2.1)) ∧ f 7 = (Value.pointer (some ⟨g2, 0, none⟩)) ∧ f 8 = (Value.func (.func 65) #[] #[]) ∧ f 9 = (Value.int .i64 (s4.2.2)) ∧ f 25 = (Value.slice z8 m8 k8) ∧ f 26 = (Value.int .i64 ((x2.length : Int))) ∧ f 27 = (Value.int .i64 (i4 : Int))) hrun4 ⟨(I6.pull 1), rfl, rfl, rfl, rfl, rfl, rfl, rfl, rfl, rfl⟩ ?_ ?_
   ·
    rintro i4 s4 f w o4 hlt4 hI7 h52
    obtain ⟨I79, e506, e507, e508, e509, e510, e511, e512, e513, e514⟩ := hI7
    refine wp_seq' ?_
    refine wp_region' ?_
    refine wl_op rfl (op_lss (a := (i4 : Int)) (b := (x2.length : Int)) rfl e514 e513 ?_)
    refine wl_nil ?_
    refine wp_seq' ?_
    refine wp_cond_t (b := decide ((i4 : Int) < (x2.length : Int))) rfl (len_t hlt4) ?_
    refine wp_skip' ?_
    refine wp_seq' ?_
    refine wp_block' ?_
    refine wp_seq' ?_
    refine wp_region' ?_
    refine wl_op rfl (op_move (v := (Value.int .i64 ((i4 : Int)))) rfl e514 ?_)
    obtain ⟨x75, hx75, h52⟩ := bnd h52
    refine wl_op rfl (op_indexAddr_src (v := (Value.slice z8 m8 k8)) (i := (i4 : Int)) (e := x75) rfl Try.underlying72 sh4 e512 (Inv.rowSrc (I79.nth 1 rfl)) e514 hx75 ?_)
    refine wl_op rfl (op_load_bool (v := (elemPtr (Value.slice z8 m8 k8) ((i4 : Int)) (Enc.sz Bool))) (e := x75) rfl sh4 rfl ((I79.nth 1 rfl).rowElem hx75) ?_)
    refine wl_op rfl (op_assign (v := (Value.int .i64 ((i4 : Int)))) rfl rfl ?_)
    refine wl_op rfl (op_assign (v := (Value.bool (x75))) rfl rfl ?_)
    refine wl_nil ?_
    obtain ⟨ov18, h55, h52⟩ := bnd h52
    refine wp_cut (fun f w => ∃ v18, ov18 = Sum.inl v18 ∧ Inv w S3 (Cells g2 64 #[(Value.slice z6 m6 k6), (Value.slice z7 m7 k7)] :: Row (α := Bool) 4 (Value.slice z8 m8 k8) (x2) :: Fr) ∧ f 1 = (Value.slice z3 m3 k3) ∧ f 4 = (Value.int .i64 (s4.1)) ∧ f 5 = (Value.int .i64 (s4.2.1)) ∧ f 7 = (Value.pointer (some ⟨g2, 0, none⟩)) ∧ f 8 = (Value.func (.func 65) #[] #[]) ∧ f 9 = (Value.int .i64 (s4.2.2)) ∧ f 10 = (Value.int .i64 ((i4 : Int))) ∧ f 25 = (Value.slice z8 m8 k8) ∧ f 26 = (Value.int .i64 ((x2.length : Int))) ∧ f 27 = (Value.int .i64 ((i4 : Int)))) ?_ ?_
    ·
     refine wp_seq' ?_
     refine wp_region' ?_
     refine wl_op rfl (op_move (v := (Value.bool (x75))) rfl rfl ?_)
     refine wl_op rfl (op_not (b := x75) rfl rfl ?_)
     refine wl_op rfl (op_move (v := (Value.bool (!x75))) rfl rfl ?_)
     rcases ifs h55 with ⟨hc52, h55⟩ | ⟨hc52, h55⟩
     ·
      refine wl_skip (c := !x75) rfl rfl rfl rfl hc52 rfl ?_
      refine wl_skip (c := !x75) rfl rfl rfl rfl hc52 rfl ?_
      refine wl_skip (c := !x75) rfl rfl rfl rfl hc52 rfl ?_
      refine wl_skip (c := !x75) rfl rfl rfl rfl hc52 rfl ?_
      refine wl_skip (c := !x75) rfl rfl rfl rfl hc52 rfl ?_
      refine wl_op rfl (op_pick_t (c := !x75) (a := (Value.bool (true))) rfl rfl hc52 rfl ?_)
      refine wl_nil ?_
      refine wp_cond_t (b := true) rfl rfl ?_
      refine wp_exit' ?_
      refine wp_region' ?_
      refine wl_op rfl (op_add (a := (i4 : Int)) (b := 1) rfl e514 rfl ?_)
      refine wl_op rfl (op_move (v := (Value.int .i64 (w64 ((i4 : Int) + 1)))) rfl rfl ?_)
      refine wl_nil ?_
      obtain rfl := Option.some.inj h55
      have h56 := h52
      obtain rfl := Option.some.inj h56
      exact ⟨((I79.pull 1).pull 1), e506, e507, e508, e509, e510, e511, e512, e513, (idx_next hlt4 hk4)⟩
     ·
      refine wl_taken (c := !x75) rfl rfl rfl rfl hc52 (op_move (v := (Value.slice z3 m3 k3)) rfl e506 ?_)
      refine wl_taken (c := !x75) rfl rfl rfl rfl hc52 (op_move (v := (Value.int .i64 ((i4 : Int)))) rfl rfl ?_)
      obtain ⟨x77, hx77, h55⟩ := bnd h55
      refine wl_taken (c := !x75) rfl rfl rfl rfl hc52 (op_indexAddr_rv (v := (Value.slice z3 m3 k3)) (i := (i4 : Int)) (e := x77) rfl Try.underlying26 sh3 rfl (h1_.mono ((le1.trans le2).trans le3)) rfl hx77 ?_)
      refine wl_taken (c := !x75) rfl rfl rfl rfl hc52 (op_load_int (v := (elemPtr (Value.slice z3 m3 k3) ((i4 : Int)) (Enc.sz Int))) (e := x77) rfl sh3 rfl ((h1_.mono ((le1.trans le2).trans le3)).elem I79.in_ hx77) ?_)
      refine wl_taken (c := !x75) rfl rfl rfl rfl hc52 (op_leq (a := x77) (b := 0) rfl rfl rfl ?_)
      refine wl_op rfl (op_pick_f (c := !x75) (b := (Value.bool (decide (x77 ≤ 0)))) rfl rfl hc52 rfl ?_)
      refine wl_nil ?_
      rcases ifs h55 with ⟨hc53, h55⟩ | ⟨hc53, h55⟩
      ·
       refine wp_cond_t (b := decide (x77 ≤ 0)) rfl hc53 ?_
       refine wp_exit' ?_
       refine wp_region' ?_
       refine wl_op rfl (op_add (a := (i4 : Int)) (b := 1) rfl e514 rfl ?_)
       refine wl_op rfl (op_move (v := (Value.int .i64 (w64 ((i4 : Int) + 1)))) rfl rfl ?_)
       refine wl_nil ?_
       obtain rfl := Option.some.inj h55
       have h56 := h52
       obtain rfl := Option.some.inj h56
       exact ⟨((I79.pull 1).pull 1), e506, e507, e508, e509, e510, e511, e512, e513, (idx_next hlt4 hk4)⟩
      ·
       refine wp_cond_f (b := decide (x77 ≤ 0)) rfl hc53 ?_
       refine wp_skip' ?_
       obtain rfl := Option.some.inj h55
       exact ⟨_, rfl, ((I79.pull 1).pull 1), e506, e507, e508, e509, e510, e511, rfl, e512, e513, e514⟩
    ·
     rintro f w ⟨v18, rfl, I80, e515, e516, e517, e518, e519, e520, e521, e522, e523, e524⟩
     have h52 := onL_inl h52
     refine wp_seq' ?_
     refine wp_region' ?_
     refine wl_op rfl (op_fieldAddr (v := (Value.pointer (some ⟨g2, 0, none⟩))) rfl fa64_0 e518 rfl ?_)
     refine wl_op rfl (op_load1 (c := (Value.slice z6 m6 k6)) rfl sh23 (I80.nth 0 rfl) rfl rfl ?_)
     refine wl_op rfl (op_move (v := (Value.int .i64 ((i4 : Int)))) rfl e521 ?_)
     obtain ⟨x78, hx78, h52⟩ := bnd h52
     refine wl_op rfl (op_indexAddr_rv (v := (Value.slice z6 m6 k6)) (i := (i4 : Int)) (e := x78) rfl Try.underlying23 sh40 rfl (r6.mono le3) rfl hx78 ?_)
     refine wl_op rfl (op_load (v := (elemPtr (Value.slice z6 m6 k6) ((i4 : Int)) (Enc.sz (List Edge)))) (e := x78) rfl sh40 rfl ((r6.mono le3).elem I80.in_ hx78) (fun u17 hu17 => ?_))
     obtain ⟨z12, m12, k12, e525⟩ := rv_form hu17
     subst e525
     refine wl_op rfl (op_len_rv rfl Try.underlying40 rfl hu17 ?_)
     refine wl_op rfl (op_move (v := (Value.int .i64 (0))) rfl rfl ?_)
     refine wl_nil ?_
     have hk5 : x78.length ≤ 9223372036854775807 := (rv_len hu17)
     obtain ⟨out5, hrun5, h52⟩ := bnd h52
     refine wp_cutN (fun f w => Inv w S3 (Cells g2 64 #[(Value.slice z6 m6 k6), (Value.slice z7 m7 k7)] :: Row (α := Bool) 4 (Value.slice z8 m8 k8) (x2) :: Fr) ∧ f 1 = (Value.slice z3 m3 k3) ∧ f 4 = (Value.int .i64 (out5.1)) ∧ f 5 = (Value.int .i64 (out5.2.1)) ∧ f 7 = (Value.pointer (some ⟨g2, 0, none⟩)) ∧ f 8 = (Value.func (.func 65) #[] #[]) ∧ f 9 = (Value.int .i64 (out5.2.2)) ∧ f 10 = (Value.int .i64 ((i4 : Int))) ∧ f 25 = (Value.slice z8 m8 k8) ∧ f 26 = (Value.int .i64 ((x2.length : Int))) ∧ f 27 = (Value.int .i64 ((i4 : Int))) ∧ f 45 = (Value.slice z12 m12 k12) ∧ f 46 = (Value.int .i64 ((x78.length : Int)))) ?_ ?_
     ·
      refine wp_block' ?_
      refine wp_forS (I := fun (i5 : Nat) (s5 : (Int × Int × Int)) (f : Frm) (w : World) => Inv w S3 (Cells g2 64 #[(Value.slice z6 m6 k6), (Value.slice z7 m7 k7)] :: Row (α := Bool) 4 (Value.slice z8 m8 k8) (x2) :: Fr) ∧ f 1 = (Value.slice z3 m3 k3) ∧ f 4 = (Value.int .i64 (s5.1)) ∧ f 5 = (Value.int .i64 (s5.2.1)) ∧ f 7 = (Value.pointer (some ⟨g2, 0, none⟩)) ∧ f 8 = (Value.func (.func 65) #[] #[]) ∧ f 9 = (Value.int .i64 (s5.2.2)) ∧ f 10 = (Value.int .i64 ((i4 : Int))) ∧ f 25 = (Value.slice z8 m8 k8) ∧ f 26 = (Value.int .i64 ((x2.length : Int))) ∧ f 27 = (Value.int .i64 ((i4 : Int))) ∧ f 45 = (Value.slice z12 m12 k12) ∧ f 46 = (Value.int .i64 ((x78.length : Int))) ∧ f 47 = (Value.int .i64 (i5 : Int))) hrun5 ⟨((I80.pull 1).pull 1), e515, e516, e517, e518, e519, e520, e521, e522, e523, e524, rfl, rfl, rfl⟩ ?_ ?_
      ·
       rintro i5 s5 f w o5 hlt5 hI8 h66
       obtain ⟨I96, e616, e617, e618, e619, e620, e621, e622, e623, e624, e625, e626, e627, e628⟩ := hI8
       refine wp_seq' ?_
       refine wp_region' ?_
       refine wl_op rfl (op_lss (a := (i5 : Int)) (b := (x78.length : Int)) rfl e628 e627 ?_)
       refine wl_nil ?_
       refine wp_seq' ?_
       refine wp_cond_t (b := decide ((i5 : Int) < (x78.length : Int))) rfl (len_t hlt5) ?_
       refine wp_skip' ?_
       refine wp_seq' ?_
       refine wp_block' ?_
       refine wp_seq' ?_
       refine wp_region' ?_
       refine wl_op rfl (op_move (v := (Value.int .i64 ((i5 : Int)))) rfl e628 ?_)
       obtain ⟨x94, hx94, h66⟩ := bnd h66
       refine wl_op rfl (op_indexAddr_rv (v := (Value.slice z12 m12 k12)) (i := (i5 : Int)) (e := x94) rfl Try.underlying40 sh44 e626 hu17 e628 hx94 ?_)
       refine wl_op rfl (op_load (v := (elemPtr (Value.slice z12 m12 k12) ((i5 : Int)) (Enc.sz Edge))) (e := x94) rfl sh44 rfl (hu17.elem I96.in_ hx94) (fun u21 hu21 => ?_))
       have e629 := Edge.inv hu21
       subst e629
       refine wl_op rfl (op_alloc (z := (Value.agg #[(Value.int .i64 (0)), (Value.int .i64 (0)), (Value.int .i64 (0)), (Value.int .i64 (0))])) rfl I96 zo44 (fun g18 w51 (I97 : Inv w51 S3 (Cells g18 44 #[(Value.int .i64 (0)), (Value.int .i64 (0)), (Value.int .i64 (0)), (Value.int .i64 (0))] :: Cells g2 64 #[(Value.slice z6 m6 k6), (Value.slice z7 m7 k7)] :: Row (α := Bool) 4 (Value.slice z8 m8 k8) (x2) :: Fr)) => ?_))
       refine wl_op rfl (op_assign (v := (Value.int .i64 ((i5 : Int)))) rfl rfl ?_)
       refine wl_op rfl (op_store (v := (Value.agg #[(Value.int .i64 (x94.Move.Player)), (Value.int .i64 (x94.Move.Kind)), (Value.int .i64 (x94.Move.Number)), (Value.int .i64 (x94.To))])) (cs := #[(Value.int .i64 (0)), (Value.int .i64 (0)), (Value.int .i64 (0)), (Value.int .i64 (0))]) sh44 I97 rfl rfl rfl (Nat.le_of_ble_eq_true rfl) rfl (fun w52 (I98 : Inv w52 S3 (Cells g18 44 #[(Value.int .i64 (x94.Move.Player)), (Value.int .i64 (x94.Move.Kind)), (Value.int .i64 (x94.Move.Number)), (Value.int .i64 (x94.To))] :: Cells g2 64 #[(Value.slice z6 m6 k6), (Value.slice z7 m7 k7)] :: Row (α := Bool) 4 (Value.slice z8 m8 k8) (x2) :: Fr)) => ?_))
       refine wl_nil ?_
       refine wp_seq' ?_
       refine wp_region' ?_
       refine wl_op rfl (op_move (v := (Value.func (.func 65) #[] #[])) rfl e620 ?_)
       refine wl_op rfl (op_move (v := (Value.slice z3 m3 k3)) rfl e616 ?_)
       refine wl_op rfl (op_fieldAddr (v := (Value.pointer (some ⟨g18, 0, none⟩))) rfl fa44_1 rfl rfl ?_)
       refine wl_op rfl (op_load1 (c := (Value.int .i64 (x94.To))) rfl sh3 (I98.nth 0 rfl) rfl rfl ?_)
       obtain ⟨x95, hx95, h66⟩ := bnd h66
       refine wl_op rfl (op_indexAddr_rv (v := (Value.slice z3 m3 k3)) (i := x94.To) (e := x95) rfl Try.underlying26 sh3 rfl (h1_.mono ((le1.trans le2).trans le3)) rfl hx95 ?_)
       refine wl_op rfl (op_load_int (v := (elemPtr (Value.slice z3 m3 k3) (x94.To) (Enc.sz Int))) (e := x95) rfl sh3 rfl ((h1_.mono ((le1.trans le2).trans le3)).elem I98.in_ hx95) ?_)
       obtain ⟨x96, hx96, h66⟩ := bnd h66
       refine wl_op rfl (op_call_v (vs := [(Value.int .i64 (x95))]) (r := (Value.int .i64 (x96))) rfl ca65 rfl (args1 rfl) I98 (fun Fr_ hF_ => F65_ok hF_  hx96) (fun w53 I99 => ?_))
       refine wl_op rfl (op_assign (v := (Value.int .i64 (x96))) rfl rfl ?_)
       refine wl_nil ?_
       obtain ⟨v22, h69, h66⟩ := bnd h66
       refine wp_cut (fun f w => Inv w S3 (Cells g2 64 #[(Value.slice z6 m6 k6), (Value.slice z7 m7 k7)] :: Row (α := Bool) 4 (Value.slice z8 m8 k8) (x2) :: Fr) ∧ f 1 = (Value.slice z3 m3 k3) ∧ f 4 = (Value.int .i64 (s5.1)) ∧ f 5 = (Value.int .i64 (s5.2.1)) ∧ f 7 = (Value.pointer (some ⟨g2, 0, none⟩)) ∧ f 8 = (Value.func (.func 65) #[] #[]) ∧ f 9 = (Value.int .i64 (s5.2.2)) ∧ f 10 = (Value.int .i64 ((i4 : Int))) ∧ f 12 = (Value.int .i64 ((i5 : Int))) ∧ f 14 = (Value.int .i64 (x96)) ∧ f 25 = (Value.slice z8 m8 k8) ∧ f 26 = (Value.int .i64 ((x2.length : Int))) ∧ f 27 = (Value.int .i64 ((i4 : Int))) ∧ f 45 = (Value.slice z12 m12 k12) ∧ f 46 = (Value.int .i64 ((x78.length : Int))) ∧ f 47 = (Value.int .i64 ((i5 : Int))) ∧ f 69 = (Value.bool (v22))) ?_ ?_
       ·
        refine wp_region' ?_
        refine wl_op rfl (op_move (v := (Value.int .i64 (x96))) rfl rfl ?_)
        refine wl_op rfl (op_move (v := (Value.slice z3 m3 k3)) rfl e616 ?_)
        refine wl_op rfl (op_move (v := (Value.int .i64 ((i4 : Int)))) rfl e622 ?_)
        obtain ⟨x98, hx98, h69⟩ := bnd h69
        refine wl_op rfl (op_indexAddr_rv (v := (Value.slice z3 m3 k3)) (i := (i4 : Int)) (e := x98) rfl Try.underlying26 sh3 rfl (h1_.mono ((le1.trans le2).trans le3)) rfl hx98 ?_)
        refine wl_op rfl (op_load_int (v := (elemPtr (Value.slice z3 m3 k3) ((i4 : Int)) (Enc.sz Int))) (e := x98) rfl sh3 rfl ((h1_.mono ((le1.trans le2).trans le3)).elem I99.in_ hx98) ?_)
        refine wl_op rfl (op_gtr (a := x96) (b := x98) rfl rfl rfl ?_)
        refine wl_op rfl (op_move (v := (Value.bool (decide (x98 < x96)))) rfl rfl ?_)
        rcases ifs h69 with ⟨hc64, h69⟩ | ⟨hc64, h69⟩
        ·
         refine wl_taken (c := decide (x98 < x96)) rfl rfl rfl rfl hc64 (op_move (v := (Value.int .i64 (x96))) rfl rfl ?_)
         refine wl_taken (c := decide (x98 < x96)) rfl rfl rfl rfl hc64 (op_move (v := (Value.int .i64 (s5.2.2))) rfl e621 ?_)
         refine wl_taken (c := decide (x98 < x96)) rfl rfl rfl rfl hc64 (op_gtr (a := x96) (b := s5.2.2) rfl rfl rfl ?_)
         refine wl_op rfl (op_pick_t (c := decide (x98 < x96)) (a := (Value.bool (decide (s5.2.2 < x96)))) rfl rfl hc64 rfl ?_)
         refine wl_nil ?_
         obtain rfl := Option.some.inj h69
         exact ⟨(((I99).drop.pull 1).pull 1), e616, e617, e618, e619, e620, e621, e622, rfl, rfl, e623, e624, e625, e626, e627, e628, rfl⟩
        ·
         refine wl_skip (c := decide (x98 < x96)) rfl rfl rfl rfl hc64 rfl ?_
         refine wl_skip (c := decide (x98 < x96)) rfl rfl rfl rfl hc64 rfl ?_
         refine wl_skip (c := decide (x98 < x96)) rfl rfl rfl rfl hc64 rfl ?_
         refine wl_op rfl (op_pick_f (c := decide (x98 < x96)) (b := (Value.bool (false))) rfl rfl hc64 rfl ?_)
         refine wl_nil ?_
         obtain rfl := Option.some.inj h69
         exact ⟨(((I99).drop.pull 1).pull 1), e616, e617, e618, e619, e620, e621, e622, rfl, rfl, e623, e624, e625, e626, e627, e628, rfl⟩
       ·
        rintro f w ⟨I100, e630, e631, e632, e633, e634, e635, e636, e637, e638, e639, e640, e641, e642, e643, e644, e645⟩
        rcases ifs h66 with ⟨hc65, h66⟩ | ⟨hc65, h66⟩
        ·
         refine wp_cond_t (b := v22) e645 hc65 ?_
         refine wp_region' ?_
         refine wl_op rfl (op_move (v := (Value.int .i64 ((i4 : Int)))) rfl e636 ?_)
         refine wl_op rfl (op_move (v := (Value.int .i64 ((i5 : Int)))) rfl e637 ?_)
         refine wl_op rfl (op_move (v := (Value.int .i64 (x96))) rfl e638 ?_)
         refine wl_op rfl (op_assign (v := (Value.int .i64 ((i4 : Int)))) rfl rfl ?_)
         refine wl_op rfl (op_assign (v := (Value.int .i64 ((i5 : Int)))) rfl rfl ?_)
         refine wl_op rfl (op_assign (v := (Value.int .i64 (x96))) rfl rfl ?_)
         refine wl_nil ?_
         refine wp_region' ?_
         refine wl_op rfl (op_add (a := (i5 : Int)) (b := 1) rfl e644 rfl ?_)
         refine wl_op rfl (op_move (v := (Value.int .i64 (w64 ((i5 : Int) + 1)))) rfl rfl ?_)
         refine wl_nil ?_
         obtain rfl := Option.some.inj h66
         exact ⟨((I100.pull 1).pull 1), e630, rfl, rfl, e633, e634, rfl, e636, e639, e640, e641, e642, e643, (idx_next hlt5 hk5)⟩
        ·
         refine wp_cond_f (b := v22) e645 hc65 ?_
         refine wp_skip' ?_
         refine wp_region' ?_
         refine wl_op rfl (op_add (a := (i5 : Int)) (b := 1) rfl e644 rfl ?_)
         refine wl_op rfl (op_move (v := (Value.int .i64 (w64 ((i5 : Int) + 1)))) rfl rfl ?_)
         refine wl_nil ?_
         obtain rfl := Option.some.inj h66
         exact ⟨((I100.pull 1).pull 1), e630, e631, e632, e633, e634, e635, e636, e639, e640, e641, e642, e643, (idx_next hlt5 hk5)⟩
      ·
       rintro f w hI9
       obtain ⟨I101, e646, e647, e648, e649, e650, e651, e652, e653, e654, e655, e656, e657, e658⟩ := hI9
       refine wp_seq' ?_
       refine wp_region' ?_
       refine wl_op rfl (op_lss (a := (x78.length : Int)) (b := (x78.length : Int)) rfl e658 e657 ?_)
       refine wl_nil ?_
       refine wp_seq' ?_
       refine wp_cond_f (b := decide ((x78.length : Int) < (x78.length : Int))) rfl (len_f _) ?_
       refine wp_exit' ?_
       exact ⟨((I101.pull 1).pull 1), e646, e647, e648, e649, e650, e651, e652, e653, e654, e655, e656, e657⟩
     ·
      rintro f w ⟨I102, e659, e660, e661, e662, e663, e664, e665, e666, e667, e668, e669, e670⟩
      refine wp_region' ?_
      refine wl_op rfl (op_add (a := (i4 : Int)) (b := 1) rfl e668 rfl ?_)
      refine wl_op rfl (op_move (v := (Value.int .i64 (w64 ((i4 : Int) + 1)))) rfl rfl ?_)
      refine wl_nil ?_
      obtain rfl := Option.some.inj h52
      exact ⟨((I102.pull 1).pull 1), e659, e660, e661, e662, e663, e664, e666, e667, (idx_next hlt4 hk4)⟩
   ·
    rintro f w hI10
    obtain ⟨I103, e671, e672, e673, e674, e675, e676, e677, e678, e679⟩ := hI10
    refine wp_seq' ?_
    refine wp_region' ?_
    refine wl_op rfl (op_lss (a := (x2.length : Int)) (b := (x2.length : Int)) rfl e679 e678 ?_)
    refine wl_nil ?_
    refine wp_seq' ?_
    refine wp_cond_f (b := decide ((x2.length : Int) < (x2.length : Int))) rfl (len_f _) ?_
    refine wp_exit' ?_
    exact ⟨((I103.pull 1).pull 1), e671, e672, e673, e674, e675, e676, e677, e678⟩
  ·
   rintro f w ⟨I104, e680, e681, e682, e683, e684, e685, e686, e687⟩
   refine wp_seq' ?_
   refine wp_seq' ?_
   refine wp_region' ?_
   refine wl_op rfl (op_move (v := (Value.int .i64 (out4.2.2))) rfl e685 ?_)
   refine wl_op rfl (op_eql (a := out4.2.2) (b := 0) rfl rfl rfl ?_)
   refine wl_nil ?_
   rcases ifs h with ⟨hc66, h⟩ | ⟨hc66, h⟩
   ·
    refine wp_cond_t (b := out4.2.2 == 0) rfl hc66 ?_
    refine wp_seq' ?_
    refine wp_region' ?_
    refine wl_op rfl (op_assign (v := (Value.int .i64 (0))) rfl rfl ?_)
    refine wl_op rfl (op_assign (v := (Value.int .i64 (0))) rfl rfl ?_)
    refine wl_op rfl (op_assign (v := (Value.int .i64 (3))) rfl rfl ?_)
    refine wl_nil ?_
    refine wp_ret' ?_
    obtain rfl := Option.some.inj h
    exact ⟨(Value.tuple #[(Value.int .i64 (0)), (Value.int .i64 (0)), (Value.int .i64 (3))]), (res3 rfl rfl rfl rfl), _, [], ((le1.trans le2).trans le3), ((I104).drop).drop, rfl, rfl⟩
   ·
    refine wp_cond_f (b := out4.2.2 == 0) rfl hc66 ?_
    refine wp_skip' ?_
    refine wp_seq' ?_
    refine wp_region' ?_
    refine wl_op rfl (op_move (v := (Value.int .i64 (out4.1))) rfl e681 ?_)
    refine wl_op rfl (op_move (v := (Value.int .i64 (out4.2.1))) rfl e682 ?_)
    refine wl_op rfl (op_assign (v := (Value.int .i64 (out4.1))) rfl rfl ?_)
    refine wl_op rfl (op_assign (v := (Value.int .i64 (out4.2.1))) rfl rfl ?_)
    refine wl_op rfl (op_assign (v := (Value.int .i64 (0))) rfl rfl ?_)
    refine wl_nil ?_
    refine wp_ret' ?_
    obtain rfl := Option.some.inj h
    exact ⟨(Value.tuple #[(Value.int .i64 (out4.1)), (Value.int .i64 (out4.2.1)), (Value.int .i64 (0))]), (res3 rfl rfl rfl rfl), _, [], ((le1.trans le2).trans le3), ((I104).drop).drop, rfl, rfl⟩

set_option maxHeartbeats 4000000 in
set_option maxRecDepth 100000 in
theorem F67_ok {w : World} {S : PH} {Fr : List HP} {a0 : Graph} {v0 : Value} {r : (List Bool)} (hI : Inv w S (Fr)) (h0_ : RV S v0 a0) (h : F67 a0 = some r) :
    Calls Try.prog 67 [v0].toArray w (Done S Fr (fun T_ v_ O_ => ∃ (a0_ : Option Addr) (n0_ k0_ : Nat), v_ = (Value.slice a0_ n0_ k0_) ∧ O_ = [Row (α := Bool) 4 (Value.slice a0_ n0_ k0_) (r)])) := by
 unfold F67 at h
 obtain ⟨c1, c2, e1, r1, r2⟩ := Graph.inv h0_
 subst e1
 obtain ⟨z1, m1, k1, e2⟩ := rv_form r1
 subst e2
 obtain ⟨z2, m2, k2, e3⟩ := rv_form r2
 subst e3
 refine calls_enter (n := 53) (vs := [(Value.agg #[(Value.slice z1 m1 k1), (Value.slice z2 m2 k2)])]) Try.func67 rfl rfl rfl ?_
 refine wp_seq' ?_
 refine wp_region' ?_
 refine wl_op rfl (op_box (v := (Value.agg #[(Value.slice z1 m1 k1), (Value.slice z2 m2 k2)])) rfl hI rfl (fun g1 w1 I1 => ?_))
 obtain ⟨S1, le1, I2, p1⟩ := Inv.boxFreeze (x := a0) I1 (Graph.rv (s := a0) r1 r2)
 refine wl_op rfl (op_assign (v := (Value.slice none 0 0)) rfl rfl ?_)
 refine wl_nil ?_
 refine wp_seq' ?_
 refine wp_region' ?_
 refine wl_op rfl (op_fieldAddr_t (v := (Value.pointer (some ⟨g1, 0, none⟩))) rfl fa25_1 rfl (p1.at_ I2) ?_)
 refine wl_op rfl (op_load (v := (fieldPtr (Value.pointer (some ⟨g1, 0, none⟩)) 1)) (e := a0.Edges) rfl sh23 rfl ((p1.at_ I2).fld Graph.fld1) (fun u1 hu1 => ?_))
 obtain ⟨z3, m3, k3, e4⟩ := rv_form hu1
 subst e4
 refine wl_op rfl (op_len_rv rfl Try.underlying23 rfl hu1 ?_)
 obtain ⟨x1, hx1, h⟩ := bnd h
 refine wl_op rfl (op_makeSlice (c := (a0.Edges.length : Int)) rfl Try.underlying72 el4 (by decide) rfl rfl I2 hx1 (fun u2 w2 I3 => ?_))
 obtain ⟨z4, m4, k4, e5⟩ := row_form I3
 subst e5
 refine wl_op rfl (op_assign (v := (Value.slice z4 m4 k4)) rfl rfl ?_)
 refine wl_nil ?_
 refine wp_seq' ?_
 refine wp_region' ?_
 refine wl_op rfl (op_move (v := (Value.slice z4 m4 k4)) rfl rfl ?_)
 obtain ⟨x2, hx2, h⟩ := bnd h
 refine wl_op rfl (op_indexAddr_src (v := (Value.slice z4 m4 k4)) (i := 0) (e := x2) rfl Try.underlying72 sh4 rfl (Inv.rowSrc (I3.nth 0 rfl)) rfl hx2 ?_)
 refine wl_op rfl (op_storeRow (u := (Value.bool (true))) (e' := true) sh4 I3 rfl rfl hx2 (rv_bool' _) (fun w3 I4 => ?_))
 refine wl_nil ?_
 refine wp_seq' ?_
 refine wp_seq' ?_
 refine wp_region' ?_
 refine wl_op rfl (op_assign (v := (Value.int .i64 (0))) rfl rfl ?_)
 refine wl_nil ?_
 obtain ⟨out49, hrun49, h⟩ := bnd h
 refine wp_cutN (fun f w => Inv w S1 (Row (α := Bool) 4 (Value.slice z4 m4 k4) (out49.1) :: Fr) ∧ f 1 = (Value.pointer (some ⟨g1, 0, none⟩)) ∧ f 3 = (Value.slice z4 m4 k4) ∧ f 4 = (Value.int .i64 (out49.2))) ?_ ?_
 ·
  refine wp_block' ?_
  refine wp_whileO (I := fun (s49 : (List Bool × Int)) (f : Frm) (w : World) => Inv w S1 (Row (α := Bool) 4 (Value.slice z4 m4 k4) (s49.1) :: Fr) ∧ f 1 = (Value.pointer (some ⟨g1, 0, none⟩)) ∧ f 3 = (Value.slice z4 m4 k4) ∧ f 4 = (Value.int .i64 (s49.2))) hrun49 ⟨I4, rfl, rfl, rfl⟩ ?_
  rintro s49 f w o49 hI49 h979 hout49
  obtain ⟨I983, e5130, e5131, e5132⟩ := hI49
  refine wp_seq' ?_
  refine wp_seq' ?_
  refine wp_region' ?_
  refine wl_op rfl (op_move (v := (Value.int .i64 (s49.2))) rfl e5132 ?_)
  refine wl_op rfl (op_move (v := (Value.slice z4 m4 k4)) rfl e5131 ?_)
  refine wl_op rfl (op_len_row (α := Bool) rfl Try.underlying72 rfl (I983.nth 0 rfl) ?_)
  refine wl_op rfl (op_lss (a := s49.2) (b := (s49.1.length : Int)) rfl rfl rfl ?_)
  refine wl_nil ?_
  rcases ifs h979 with ⟨hc1199, h979⟩ | ⟨hc1199, h979⟩
  ·
   refine wp_cond_t (b := decide (s49.2 < (s49.1.length : Int))) rfl hc1199 ?_
   refine wp_skip' ?_
   refine wp_seq' ?_
   refine wp_block' ?_
   refine wp_seq' ?_
   refine wp_region' ?_
   refine wl_op rfl (op_assign (v := (Value.int .i64 (0))) rfl rfl ?_)
   refine wl_nil ?_
   obtain ⟨out56, hrun56, h979⟩ := bnd h979
   refine wp_cutN (fun f w => Inv w S1 (Row (α := Bool) 4 (Value.slice z4 m4 k4) (out56.1) :: Fr) ∧ f 1 = (Value.pointer (some ⟨g1, 0, none⟩)) ∧ f 3 = (Value.slice z4 m4 k4) ∧ f 4 = (Value.int .i64 (s49.2)) ∧ f 5 = (Value.int .i64 (out56.2))) ?_ ?_
   ·
    refine wp_block' ?_
    refine wp_whileO (I := fun (s56 : (List Bool × Int)) (f : Frm) (w : World) => Inv w S1 (Row (α := Bool) 4 (Value.slice z4 m4 k4) (s56.1) :: Fr) ∧ f 1 = (Value.pointer (some ⟨g1, 0, none⟩)) ∧ f 3 = (Value.slice z4 m4 k4) ∧ f 4 = (Value.int .i64 (s49.2)) ∧ f 5 = (Value.int .i64 (s56.2))) hrun56 ⟨I983, e5130, e5131, e5132, rfl⟩ ?_
    rintro s56 f w o56 hI56 h1119 hout56
    obtain ⟨I1122, e5859, e5860, e5861, e5862⟩ := hI56
    refine wp_seq' ?_
    refine wp_seq' ?_
    refine wp_region' ?_
    refine wl_op rfl (op_move (v := (Value.int .i64 (s56.2))) rfl e5862 ?_)
    refine wl_op rfl (op_move (v := (Value.slice z4 m4 k4)) rfl e5860 ?_)
    refine wl_op rfl (op_len_row (α := Bool) rfl Try.underlying72 rfl (I1122.nth 0 rfl) ?_)
    refine wl_op rfl (op_lss (a := s56.2) (b := (s56.1.length : Int)) rfl rfl rfl ?_)
    refine wl_nil ?_
    rcases ifs h1119 with ⟨hc1371, h1119⟩ | ⟨hc1371, h1119⟩
    ·
     refine wp_cond_t (b := decide (s56.2 < (s56.1.length : Int))) rfl hc1371 ?_
     refine wp_skip' ?_
     refine wp_seq' ?_
     refine wp_block' ?_
     refine wp_seq' ?_
     refine wp_region' ?_
     refine wl_op rfl (op_assign (v := (Value.int .i64 (0))) rfl rfl ?_)
     refine wl_nil ?_
     obtain ⟨out57, hrun57, h1119⟩ := bnd h1119
     refine wp_cutN (fun f w => Inv w S1 (Row (α := Bool) 4 (Value.slice z4 m4 k4) (out57.1) :: Fr) ∧ f 1 = (Value.pointer (some ⟨g1, 0, none⟩)) ∧ f 3 = (Value.slice z4 m4 k4) ∧ f 4 = (Value.int .i64 (s49.2)) ∧ f 5 = (Value.int .i64 (s56.2)) ∧ f 6 = (Value.int .i64 (out57.2))) ?_ ?_
     ·
      refine wp_block' ?_
      refine wp_whileO (I := fun (s57 : (List Bool × Int)) (f : Frm) (w : World) => Inv w S1 (Row (α := Bool) 4 (Value.slice z4 m4 k4) (s57.1) :: Fr) ∧ f 1 = (Value.pointer (some ⟨g1, 0, none⟩)) ∧ f 3 = (Value.slice z4 m4 k4) ∧ f 4 = (Value.int .i64 (s49.2)) ∧ f 5 = (Value.int .i64 (s56.2)) ∧ f 6 = (Value.int .i64 (s57.2))) hrun57 ⟨I1122, e5859, e5860, e5861, e5862, rfl⟩ ?_
      rintro s57 f w o57 hI57 h1139 hout57
      obtain ⟨I1141, e5959, e5960, e5961, e5962, e5963⟩ := hI57
      obtain ⟨ov343, h1142, h1139⟩ := bnd h1139
      refine wp_cut (fun f w => ∃ v343, ov343 = Sum.inl v343 ∧ Inv w S1 (Row (α := Bool) 4 (Value.slice z4 m4 k4) (s57.1) :: Fr) ∧ f 1 = (Value.pointer (some ⟨g1, 0, none⟩)) ∧ f 3 = (Value.slice z4 m4 k4) ∧ f 4 = (Value.int .i64 (s49.2)) ∧ f 5 = (Value.int .i64 (s56.2)) ∧ f 6 = (Value.int .i64 (s57.2))) ?_ ?_
      ·
       refine wp_seq' ?_
       refine wp_region' ?_
       refine wl_op rfl (op_move (v := (Value.int .i64 (s57.2))) rfl e5963 ?_)
       refine wl_op rfl (op_fieldAddr_t (v := (Value.pointer (some ⟨g1, 0, none⟩))) rfl fa25_1 e5959 (p1.at_ I1141) ?_)
       refine wl_op rfl (op_load (v := (fieldPtr (Value.pointer (some ⟨g1, 0, none⟩)) 1)) (e := a0.Edges) rfl sh23 rfl ((p1.at_ I1141).fld Graph.fld1) (fun u2057 hu2056 => ?_))
       obtain ⟨z2059, m2059, k2059, e5966⟩ := rv_form hu2056
       subst e5966
       refine wl_op rfl (op_move (v := (Value.int .i64 (s56.2))) rfl e5962 ?_)
       obtain ⟨x2399, hx2399, h1142⟩ := bnd h1142
       refine wl_op rfl (op_indexAddr_rv (v := (Value.slice z2059 m2059 k2059)) (i := s56.2) (e := x2399) rfl Try.underlying23 sh40 rfl hu2056 rfl hx2399 ?_)
       refine wl_op rfl (op_load (v := (elemPtr (Value.slice z2059 m2059 k2059) (s56.2) (Enc.sz (List Edge)))) (e := x2399) rfl sh40 rfl (hu2056.elem I1141.in_ hx2399) (fun u2058 hu2057 => ?_))
       obtain ⟨z2060, m2060, k2060, e5967⟩ := rv_form hu2057
       subst e5967
       refine wl_op rfl (op_len_rv rfl Try.underlying40 rfl hu2057 ?_)
       refine wl_op rfl (op_lss (a := s57.2) (b := (x2399.length : Int)) rfl rfl rfl ?_)
       refine wl_op rfl (op_move (v := (Value.bool (decide (s57.2 < (x2399.length : Int))))) rfl rfl ?_)
       rcases ifs h1142 with ⟨hc1398, h1142⟩ | ⟨hc1398, h1142⟩
       ·
        refine wl_taken (c := decide (s57.2 < (x2399.length : Int))) rfl rfl rfl rfl hc1398 (op_move (v := (Value.slice z4 m4 k4)) rfl e5960 ?_)
        refine wl_taken (c := decide (s57.2 < (x2399.length : Int))) rfl rfl rfl rfl hc1398 (op_move (v := (Value.int .i64 (s56.2))) rfl e5962 ?_)
        obtain ⟨x2400, hx2400, h1142⟩ := bnd h1142
        refine wl_taken (c := decide (s57.2 < (x2399.length : Int))) rfl rfl rfl rfl hc1398 (op_indexAddr_src (v := (Value.slice z4 m4 k4)) (i := s56.2) (e := x2400) rfl Try.underlying72 sh4 rfl (Inv.rowSrc (I1141.nth 0 rfl)) rfl hx2400 ?_)
        refine wl_taken (c := decide (s57.2 < (x2399.length : Int))) rfl rfl rfl rfl hc1398 (op_load_bool (v := (elemPtr (Value.slice z4 m4 k4) (s56.2) (Enc.sz Bool))) (e := x2400) rfl sh4 rfl ((I1141.nth 0 rfl).rowElem hx2400) ?_)
        refine wl_op rfl (op_pick_t (c := decide (s57.2 < (x2399.length : Int))) (a := (Value.bool (x2400))) rfl rfl hc1398 rfl ?_)
        refine wl_nil ?_
        rcases ifs h1142 with ⟨hc1399, h1142⟩ | ⟨hc1399, h1142⟩
        ·
         refine wp_cond_t (b := x2400) rfl hc1399 ?_
         refine wp_skip' ?_
         obtain rfl := Option.some.inj h1142
         exact ⟨_, rfl, I1141, e5959, e5960, e5961, e5962, e5963⟩
        ·
         refine wp_cond_f (b := x2400) rfl hc1399 ?_
         refine wp_exit' ?_
         obtain rfl := Option.some.inj h1142
         have h1143 := h1139
         obtain rfl := Option.some.inj h1143
         obtain rfl := (hout57 _ rfl)
         exact ⟨I1141, e5959, e5960, e5961, e5962, e5963⟩
       ·
        refine wl_skip (c := decide (s57.2 < (x2399.length : Int))) rfl rfl rfl rfl hc1398 rfl ?_
        refine wl_skip (c := decide (s57.2 < (x2399.length : Int))) rfl rfl rfl rfl hc1398 rfl ?_
        refine wl_skip (c := decide (s57.2 < (x2399.length : Int))) rfl rfl rfl rfl hc1398 rfl ?_
        refine wl_skip (c := decide (s57.2 < (x2399.length : Int))) rfl rfl rfl rfl hc1398 rfl ?_
        refine wl_op rfl (op_pick_f (c := decide (s57.2 < (x2399.length : Int))) (b := (Value.bool (false))) rfl rfl hc1398 rfl ?_)
        refine wl_nil ?_
        refine wp_cond_f (b := false) rfl rfl ?_
        refine wp_exit' ?_
        obtain rfl := Option.some.inj h1142
        have h1143 := h1139
        obtain rfl := Option.some.inj h1143
        obtain rfl := (hout57 _ rfl)
        exact ⟨I1141, e5959, e5960, e5961, e5962, e5963⟩
      ·
       rintro f w ⟨v343, rfl, I1142, e5968, e5969, e5970, e5971, e5972⟩
       have h1139 := onL_inl h1139
       refine wp_seq' ?_
       refine wp_block' ?_
       refine wp_region' ?_
       refine wl_op rfl (op_move (v := (Value.slice z4 m4 k4)) rfl e5969 ?_)
       refine wl_op rfl (op_fieldAddr_t (v := (Value.pointer (some ⟨g1, 0, none⟩))) rfl fa25_1 e5968 (p1.at_ I1142) ?_)
       refine wl_op rfl (op_load (v := (fieldPtr (Value.pointer (some ⟨g1, 0, none⟩)) 1)) (e := a0.Edges) rfl sh23 rfl ((p1.at_ I1142).fld Graph.fld1) (fun u2059 hu2058 => ?_))
       obtain ⟨z2061, m2061, k2061, e5973⟩ := rv_form hu2058
       subst e5973
       refine wl_op rfl (op_move (v := (Value.int .i64 (s56.2))) rfl e5971 ?_)
       obtain ⟨x2401, hx2401, h1139⟩ := bnd h1139
       refine wl_op rfl (op_indexAddr_rv (v := (Value.slice z2061 m2061 k2061)) (i := s56.2) (e := x2401) rfl Try.underlying23 sh40 rfl hu2058 rfl hx2401 ?_)
       refine wl_op rfl (op_load (v := (elemPtr (Value.slice z2061 m2061 k2061) (s56.2) (Enc.sz (List Edge)))) (e := x2401) rfl sh40 rfl (hu2058.elem I1142.in_ hx2401) (fun u2060 hu2059 => ?_))
       obtain ⟨z2062, m2062, k2062, e5974⟩ := rv_form hu2059
       subst e5974
       refine wl_op rfl (op_move (v := (Value.int .i64 (s57.2))) rfl e5972 ?_)
       obtain ⟨x2402, hx2402, h1139⟩ := bnd h1139
       refine wl_op rfl (op_indexAddr_rv (v := (Value.slice z2062 m2062 k2062)) (i := s57.2) (e := x2402) rfl Try.underlying40 sh44 rfl hu2059 rfl hx2402 ?_)
       refine wl_op rfl (op_fieldAddr_t (v := (elemPtr (Value.slice z2062 m2062 k2062) (s57.2) (Enc.sz Edge))) rfl fa44_1 rfl (hu2059.elem I1142.in_ hx2402) ?_)
       refine wl_op rfl (op_load_int (v := (fieldPtr (elemPtr (Value.slice z2062 m2062 k2062) (s57.2) (Enc.sz Edge)) 3)) (e := x2402.To) rfl sh3 rfl ((hu2059.elem I1142.in_ hx2402).fld Edge.fld1) ?_)
       obtain ⟨x2403, hx2403, h1139⟩ := bnd h1139
       refine wl_op rfl (op_indexAddr_src (v := (Value.slice z4 m4 k4)) (i := x2402.To) (e := x2403) rfl Try.underlying72 sh4 rfl (Inv.rowSrc (I1142.nth 0 rfl)) rfl hx2403 ?_)
       refine wl_op rfl (op_storeRow (u := (Value.bool (true))) (e' := true) sh4 I1142 rfl rfl hx2403 (rv_bool' _) (fun w347 I1143 => ?_))
       refine wl_nil ?_
       refine wp_region' ?_
       refine wl_op rfl (op_move (v := (Value.int .i64 (s57.2))) rfl e5972 ?_)
       refine wl_op rfl (op_add (a := s57.2) (b := 1) rfl rfl rfl ?_)
       refine wl_op rfl (op_assign (v := (Value.int .i64 (w64 (s57.2 + 1)))) rfl rfl ?_)
       refine wl_nil ?_
       obtain rfl := Option.some.inj h1139
       exact ⟨_, rfl, I1143, e5968, e5969, e5970, e5971, rfl⟩
     ·
      rintro f w ⟨I1144, e5975, e5976, e5977, e5978, e5979⟩
      refine wp_region' ?_
      refine wl_op rfl (op_move (v := (Value.int .i64 (s56.2))) rfl e5978 ?_)
      refine wl_op rfl (op_add (a := s56.2) (b := 1) rfl rfl rfl ?_)
      refine wl_op rfl (op_assign (v := (Value.int .i64 (w64 (s56.2 + 1)))) rfl rfl ?_)
      refine wl_nil ?_
      obtain rfl := Option.some.inj h1119
      exact ⟨_, rfl, I1144, e5975, e5976, e5977, rfl⟩
    ·
     refine wp_cond_f (b := decide (s56.2 < (s56.1.length : Int))) rfl hc1371 ?_
     refine wp_exit' ?_
     obtain rfl := Option.some.inj h1119
     obtain rfl := (hout56 _ rfl)
     exact ⟨I1122, e5859, e5860, e5861, e5862⟩
   ·
    rintro f w ⟨I1145, e5980, e5981, e5982, e5983⟩
    refine wp_region' ?_
    refine wl_op rfl (op_move (v := (Value.int .i64 (s49.2))) rfl e5982 ?_)
    refine wl_op rfl (op_add (a := s49.2) (b := 1) rfl rfl rfl ?_)
    refine wl_op rfl (op_assign (v := (Value.int .i64 (w64 (s49.2 + 1)))) rfl rfl ?_)
    refine wl_nil ?_
    obtain rfl := Option.some.inj h979
    exact ⟨_, rfl, I1145, e5980, e5981, rfl⟩
  ·
   refine wp_cond_f (b := decide (s49.2 < (s49.1.length : Int))) rfl hc1199 ?_
   refine wp_exit' ?_
   obtain rfl := Option.some.inj h979
   obtain rfl := (hout49 _ rfl)
   exact ⟨I983, e5130, e5131, e5132⟩
 ·
  rintro f w ⟨I1146, e5984, e5985, e5986⟩
  refine wp_seq' ?_
  refine wp_region' ?_
  refine wl_op rfl (op_move (v := (Value.slice z4 m4 k4)) rfl e5985 ?_)
  refine wl_op rfl (op_assign (v := (Value.slice z4 m4 k4)) rfl rfl ?_)
  refine wl_nil ?_
  refine wp_ret' ?_
  obtain rfl := Option.some.inj h
  exact ⟨(Value.slice z4 m4 k4), (res1 rfl rfl), _, [Row (α := Bool) 4 (Value.slice z4 m4 k4) (out49.1)], le1, I1146, _, _, _, rfl, rfl⟩
end Go.Proofs.Ytogfongmnkmegaa.Pad
