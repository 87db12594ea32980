/- A part of the proof: what the functions of the program compute, shown over the model. -/
import Derived.Test.YtfeomcdhhgeilaaPadSP
import Derived.Test.YtfeomcdhhgeilaaPadSW9
import Derived.KernelRfl
set_option linter.unusedVariables false
namespace Go.Proofs.Ytfeomcdhhgeilaa.Pad
open Go Go.Proofs
set_option maxHeartbeats 4000000 in
set_option maxRecDepth 100000 in
theorem F52_ok {w : World} {S : PH} {Fr : List HP} {a0 : Panel} {v0 : Value} {a1 : Int} {a2 : (List Signal)} {v2 : Value} {r : (List Ref08_Frame)} (hI : Inv w S (Fr)) (h0_ : RV S v0 a0) (h2_ : RV S v2 a2) (h : F52 a0 a1 a2 = some r) :
    Calls Try.prog 52 [v0, (Value.int .i64 (a1)), v2].toArray w (Done S Fr (fun T_ v_ O_ => ∃ (a0_ : Option Addr) (n0_ k0_ : Nat), v_ = (Value.slice a0_ n0_ k0_) ∧ O_ = [Row (α := Ref08_Frame) 85 (Value.slice a0_ n0_ k0_) (r)])) := by
 unfold F52 at h
 obtain ⟨c1, e1, r1⟩ := Panel.inv h0_
 subst e1
 obtain ⟨z1, m1, k1, e2⟩ := rv_form r1
 subst e2
 obtain ⟨z2, m2, k2, e3⟩ := rv_form h2_
 subst e3
 refine calls_enter (n := 153) (vs := [(Value.agg #[(Value.int .i64 (a0.Sensors)), (Value.slice z1 m1 k1), (Value.int .i64 (a0.Stale)), (Value.int .i64 (a0.Limit))]), (Value.int .i64 (a1)), (Value.slice z2 m2 k2)]) Try.func52 rfl rfl rfl ?_
 refine wp_seq' ?_
 refine wp_region' ?_
 refine wl_op rfl (op_box (v := (Value.agg #[(Value.int .i64 (a0.Sensors)), (Value.slice z1 m1 k1), (Value.int .i64 (a0.Stale)), (Value.int .i64 (a0.Limit))])) rfl hI rfl (fun g1 w1 I1 => ?_))
 obtain ⟨S1, le1, I2, p1⟩ := Inv.boxFreeze (x := a0) I1 (Panel.rv (s := a0) r1)
 refine wl_op rfl (op_assign (v := (Value.slice none 0 0)) rfl rfl ?_)
 refine wl_nil ?_
 refine wp_seq' ?_
 refine wp_region' ?_
 refine wl_op rfl (op_assign (v := (Value.slice none 0 0)) rfl rfl ?_)
 refine wl_nil ?_
 refine wp_seq' ?_
 obtain ⟨x1, hx1, h⟩ := bnd h
 refine wp_draw (sps := [⟨some 17, [], [0], fun vs_ T_ => fr0 vs_ 0 = (fieldPtr (Value.pointer (some ⟨g1, 0, none⟩)) 0), [], [], [], fun _ h_ => h_⟩, ⟨some 18, [0], [1], fun vs_ T_ => fr0 vs_ 0 = (Value.int .i64 (a0.Sensors)), [], [], [], fun _ h_ => h_⟩, ⟨some 19, [0, 1], [2], fun vs_ T_ => ∃ a_ n_ k_, fr0 vs_ 0 = Value.slice a_ n_ k_, [], [], [0], fun _ h_ => h_⟩, ⟨some 20, [], [3], fun vs_ T_ => fr0 vs_ 0 = (fieldPtr (Value.pointer (some ⟨g1, 0, none⟩)) 0), [], [], [], fun _ h_ => h_⟩, ⟨some 21, [3], [4], fun vs_ T_ => fr0 vs_ 0 = (Value.int .i64 (a0.Sensors)), [], [], [], fun _ h_ => h_⟩, ⟨some 22, [3, 4], [5], fun vs_ T_ => ∃ a_ n_ k_, fr0 vs_ 0 = Value.slice a_ n_ k_, [], [], [1], fun _ h_ => h_⟩, ⟨some 8, [0, 1, 2], [6, 2], fun vs_ T_ => fr0 vs_ 0 = (fr0 vs_ 1), [], [], [], fun _ h_ => h_⟩, ⟨some 9, [0, 1, 2, 3, 4, 5, 6], [7, 5], fun vs_ T_ => fr0 vs_ 0 = (fr0 vs_ 1), [], [], [], fun _ h_ => h_⟩]) (tks := [⟨some 2, none, [2], fun vs_ => Row (α := Int) 3 (fr0 vs_ 0) (x1)⟩, ⟨some 5, none, [5], fun vs_ => Row (α := Int) 3 (fr0 vs_ 0) (x1)⟩]) (O := Fr) rfl (by kernel_rfl) I2 ⟨?_, ?_, ?_, ?_, ?_, ?_, ?_, ?_, trivial⟩ ?_
 ·
  intro vs1 f w4 S2 X1 le2 hA1 hK1 hI1
  have I5 : Inv w4 S2 (X1) := hI1
  refine opg_plain rfl rfl (op_fieldAddr_t (v := (Value.pointer (some ⟨g1, 0, none⟩))) rfl fa24_0 (hK1 3 (keep_of rfl)) ((p1.mono le2).at_ I5) ?_)
  refine ⟨_, _, rfl, PH.Le.refl _, ?_, ?_⟩
  ·
   exact rfl
  ·
   exact I5
 ·
  intro vs2 f w5 S3 X2 le3 hA2 hK2 hI2
  have I6 : Inv w5 S3 (X2) := hI2
  have q1 : f 17 = (fieldPtr (Value.pointer (some ⟨g1, 0, none⟩)) 0) := vt (hA2.at_ 0 rfl _ rfl) rfl
  refine opg_plain rfl rfl (op_load_int (v := (fieldPtr (Value.pointer (some ⟨g1, 0, none⟩)) 0)) (e := a0.Sensors) rfl sh3 q1 (((p1.mono le3).at_ I6).fld Panel.fld0) ?_)
  refine ⟨_, _, rfl, PH.Le.refl _, ?_, ?_⟩
  ·
   exact rfl
  ·
   exact I6
 ·
  intro vs3 f w6 S4 X3 le4 hA3 hK3 hI3
  have I7 : Inv w6 S4 (X3) := hI3
  have q2 : f 18 = (Value.int .i64 (a0.Sensors)) := vt (hA3.at_ 1 rfl _ rfl) rfl
  refine opg_plain rfl rfl (op_makeSlice (c := a0.Sensors) rfl Try.underlying34 el3 (by decide) q2 q2 I7 hx1 (fun u3 w7 I8 => ?_))
  obtain ⟨z3, m3, k3, e4⟩ := row_form I8
  subst e4
  refine ⟨_, _, rfl, PH.Le.refl _, ?_, ?_⟩
  ·
   exact ⟨_, _, _, rfl⟩
  ·
   exact I8
 ·
  intro vs4 f w8 S5 X4 le5 hA4 hK4 hI4
  have I9 : Inv w8 S5 (X4) := hI4
  refine opg_plain rfl rfl (op_fieldAddr_t (v := (Value.pointer (some ⟨g1, 0, none⟩))) rfl fa24_0 (hK4 3 (keep_of rfl)) ((p1.mono le5).at_ I9) ?_)
  refine ⟨_, _, rfl, PH.Le.refl _, ?_, ?_⟩
  ·
   exact rfl
  ·
   exact I9
 ·
  intro vs5 f w9 S6 X5 le6 hA5 hK5 hI5
  have I10 : Inv w9 S6 (X5) := hI5
  have q3 : f 20 = (fieldPtr (Value.pointer (some ⟨g1, 0, none⟩)) 0) := vt (hA5.at_ 0 rfl _ rfl) rfl
  refine opg_plain rfl rfl (op_load_int (v := (fieldPtr (Value.pointer (some ⟨g1, 0, none⟩)) 0)) (e := a0.Sensors) rfl sh3 q3 (((p1.mono le6).at_ I10).fld Panel.fld0) ?_)
  refine ⟨_, _, rfl, PH.Le.refl _, ?_, ?_⟩
  ·
   exact rfl
  ·
   exact I10
 ·
  intro vs6 f w10 S7 X6 le7 hA6 hK6 hI6
  have I11 : Inv w10 S7 (X6) := hI6
  have q4 : f 21 = (Value.int .i64 (a0.Sensors)) := vt (hA6.at_ 1 rfl _ rfl) rfl
  refine opg_plain rfl rfl (op_makeSlice (c := a0.Sensors) rfl Try.underlying34 el3 (by decide) q4 q4 I11 hx1 (fun u4 w11 I12 => ?_))
  obtain ⟨z4, m4, k4, e5⟩ := row_form I12
  subst e5
  refine ⟨_, _, rfl, PH.Le.refl _, ?_, ?_⟩
  ·
   exact ⟨_, _, _, rfl⟩
  ·
   exact I12
 ·
  intro vs7 f w12 S8 X7 le8 hA7 hK7 hI7
  have I13 : Inv w12 S8 (X7) := hI7
  obtain ⟨z5, m5, k5, e6⟩ := (hA7.at_ 2 rfl _ rfl).2
  have q5 : f 19 = Value.slice z5 m5 k5 := ((hA7.at_ 2 rfl _ rfl).1 _ rfl).trans e6
  have e6 : vs7 2 = (Value.slice z5 m5 k5) := e6
  refine opg_plain rfl rfl (op_assign (v := (Value.slice z5 m5 k5)) rfl q5 ?_)
  refine ⟨_, _, rfl, PH.Le.refl _, ?_, ?_⟩
  ·
   show (Value.slice z5 m5 k5) = (vs7 2)
   simp only [e6] <;> rfl
  ·
   exact I13
 ·
  intro vs8 f w13 S9 X8 le9 hA8 hK8 hI8
  have I14 : Inv w13 S9 (X8) := hI8
  obtain ⟨z6, m6, k6, e7⟩ := (hA8.at_ 5 rfl _ rfl).2
  have q6 : f 22 = Value.slice z6 m6 k6 := ((hA8.at_ 5 rfl _ rfl).1 _ rfl).trans e7
  have e7 : vs8 5 = (Value.slice z6 m6 k6) := e7
  refine opg_plain rfl rfl (op_assign (v := (Value.slice z6 m6 k6)) rfl q6 ?_)
  refine ⟨_, _, rfl, PH.Le.refl _, ?_, ?_⟩
  ·
   show (Value.slice z6 m6 k6) = (vs8 5)
   simp only [e7] <;> rfl
  ·
   exact I14
 ·
  intro vs9 f w14 S10 le10 hF1 hK9 hI9
  have e8 : f 1 = (Value.int .i64 (a1)) := (hK9 1 (keep_all rfl)).trans rfl
  have e9 : f 2 = (Value.slice z2 m2 k2) := (hK9 2 (keep_all rfl)).trans rfl
  have e10 : f 3 = (Value.pointer (some ⟨g1, 0, none⟩)) := (hK9 3 (keep_all rfl)).trans rfl
  have e11 : f 7 = (Value.slice none 0 0) := (hK9 7 (keep_all rfl)).trans rfl
  have I15 : Inv w14 S10 (Row (α := Int) 3 (vs9 2) (x1) :: Row (α := Int) 3 (vs9 5) (x1) :: Fr) := hI9
  obtain ⟨z7, m7, k7, e12⟩ := (hF1.at_ 2 rfl _ rfl).2
  have q7 : f 19 = Value.slice z7 m7 k7 := ((hF1.at_ 2 rfl _ rfl).1 _ rfl).trans e12
  have e12 : vs9 2 = (Value.slice z7 m7 k7) := e12
  have I16 := I15
  rw [e12] at I16
  obtain ⟨z8, m8, k8, e13⟩ := (hF1.at_ 5 rfl _ rfl).2
  have q8 : f 22 = Value.slice z8 m8 k8 := ((hF1.at_ 5 rfl _ rfl).1 _ rfl).trans e13
  have e13 : vs9 5 = (Value.slice z8 m8 k8) := e13
  have I17 := I16
  rw [e13] at I17
  have q9 : f 8 = (vs9 2) := vt (hF1.at_ 6 rfl _ rfl) rfl
  simp only [e12] at q9
  have q9 : f 8 = (Value.slice z7 m7 k7) := q9
  have q10 : f 9 = (vs9 5) := vt (hF1.at_ 7 rfl _ rfl) rfl
  simp only [e13] at q10
  have q10 : f 9 = (Value.slice z8 m8 k8) := q10
  refine wp_seq' ?_
  refine wp_seq' ?_
  refine wp_region' ?_
  refine wl_op rfl (op_assign (v := (Value.int .i64 (0))) rfl rfl ?_)
  refine wl_nil ?_
  obtain ⟨x272, hx272, h⟩ := bnd h
  have I2440 := Inv.rowNil (α := Ref08_Frame) (T := 85) I17
  obtain ⟨out10, hrun10, h⟩ := bnd h
  refine wp_cutN (fun f w => ∃ (S_ : PH) (z282 : Option Addr) (m282 k282 : Nat), S10.Le S_ ∧ Inv w S_ (Row (α := Ref08_Frame) 85 (Value.slice z282 m282 k282) (out10.1) :: Row (α := Int) 3 (Value.slice z7 m7 k7) (out10.2.1) :: Row (α := Int) 3 (Value.slice z8 m8 k8) (out10.2.2) :: Fr) ∧ f 1 = (Value.int .i64 (a1)) ∧ f 2 = (Value.slice z2 m2 k2) ∧ f 3 = (Value.pointer (some ⟨g1, 0, none⟩)) ∧ f 7 = (Value.slice z282 m282 k282) ∧ f 8 = (Value.slice z7 m7 k7) ∧ f 9 = (Value.slice z8 m8 k8)) ?_ ?_
  ·
   refine wp_block' ?_
   refine wp_forS (I := fun (i7 : Nat) (s10 : (List Ref08_Frame × List Int × List Int)) (f : Frm) (w : World) => ∃ (S_ : PH) (z281 : Option Addr) (m281 k281 : Nat), S10.Le S_ ∧ Inv w S_ (Row (α := Ref08_Frame) 85 (Value.slice z281 m281 k281) (s10.1) :: Row (α := Int) 3 (Value.slice z7 m7 k7) (s10.2.1) :: Row (α := Int) 3 (Value.slice z8 m8 k8) (s10.2.2) :: Fr) ∧ f 1 = (Value.int .i64 (a1)) ∧ f 2 = (Value.slice z2 m2 k2) ∧ f 3 = (Value.pointer (some ⟨g1, 0, none⟩)) ∧ f 7 = (Value.slice z281 m281 k281) ∧ f 8 = (Value.slice z7 m7 k7) ∧ f 9 = (Value.slice z8 m8 k8) ∧ f 10 = (Value.int .i64 (i7 : Int))) hrun10 ⟨_, _, _, _, (PH.Le.refl _), (((I2440.pull 2).pull 2).pull 2), e8, e9, e10, e11, q9, q10, rfl⟩ ?_ ?_
   ·
    rintro i7 s10 f w o10 hlt7 hI1501 h154
    obtain ⟨S1837, z281, m281, k281, le1837, I2441, e2060, e2061, e2062, e2063, e2064, e2065, e2066⟩ := hI1501
    refine wp_seq' ?_
    refine wp_seq' ?_
    refine wp_region' ?_
    refine wl_op rfl (op_move (v := (Value.int .i64 ((i7 : Int)))) rfl e2066 ?_)
    refine wl_op rfl (op_move (v := (Value.int .i64 (a1))) rfl e2060 ?_)
    refine wl_op rfl (op_lss (a := (i7 : Int)) (b := a1) rfl rfl rfl ?_)
    refine wl_nil ?_
    refine wp_cond_t (b := decide ((i7 : Int) < a1)) rfl (cnt_t hx272 hlt7) ?_
    refine wp_skip' ?_
    refine wp_seq' ?_
    refine wp_block' ?_
    refine wp_seq' ?_
    obtain ⟨x273, hx273, h154⟩ := bnd h154
    obtain ⟨x274, hx274, h154⟩ := bnd h154
    obtain ⟨x275, hx275, h154⟩ := bnd h154
    refine wp_draw (sps := [⟨some 28, [], [0], fun vs_ T_ => fr0 vs_ 0 = (Value.int .i64 ((i7 : Int))), [], [], [], fun _ h_ => h_⟩, ⟨some 29, [], [1], fun vs_ T_ => fr0 vs_ 0 = (Value.slice z2 m2 k2), [], [], [], fun _ h_ => h_⟩, ⟨some 30, [0, 1], [2], fun vs_ T_ => fr0 vs_ 0 = (Value.bool (x273)), [], [], [], fun _ h_ => h_⟩, ⟨some 31, [], [3], fun vs_ T_ => fr0 vs_ 0 = (fieldPtr (Value.pointer (some ⟨g1, 0, none⟩)) 1), [], [], [], fun _ h_ => h_⟩, ⟨some 32, [3], [4], fun vs_ T_ => RV T_ (fr0 vs_ 0) a0.Doors, [], [], [], fun hle_ h_ => h_.mono hle_⟩, ⟨some 33, [3, 4], [5], fun vs_ T_ => fr0 vs_ 0 = (Value.int .i64 ((a0.Doors.length : Int))), [], [], [], fun _ h_ => h_⟩, ⟨some 34, [3, 4, 5], [6], fun vs_ T_ => ∃ a_ n_ k_, fr0 vs_ 0 = Value.slice a_ n_ k_, [], [], [0], fun _ h_ => h_⟩, ⟨some 35, [], [7], fun vs_ T_ => fr0 vs_ 0 = (fieldPtr (Value.pointer (some ⟨g1, 0, none⟩)) 1), [], [], [], fun _ h_ => h_⟩, ⟨some 36, [7], [8], fun vs_ T_ => RV T_ (fr0 vs_ 0) a0.Doors, [], [], [], fun hle_ h_ => h_.mono hle_⟩, ⟨some 37, [7, 8], [9], fun vs_ T_ => fr0 vs_ 0 = (Value.int .i64 ((a0.Doors.length : Int))), [], [], [], fun _ h_ => h_⟩, ⟨some 38, [7, 8, 9], [10], fun vs_ T_ => ∃ a_ n_ k_, fr0 vs_ 0 = Value.slice a_ n_ k_, [], [], [1], fun _ h_ => h_⟩, ⟨some 39, [0, 1, 2, 3, 4, 5, 6, 7, 8, 9, 10], [11, 6, 10], fun vs_ T_ => fr0 vs_ 0 = (Value.agg #[(Value.bool (x273)), (Value.slice none 0 0), (Value.slice none 0 0), (fr0 vs_ 1), (fr0 vs_ 2)]), [], [], [], fun _ h_ => h_⟩, ⟨some 11, [], [12], fun vs_ T_ => ∃ g_, fr0 vs_ 0 = Value.pointer (some ⟨g_, 0, none⟩), [], [], [2], fun _ h_ => h_⟩, ⟨none, [0, 1, 2, 3, 4, 5, 6, 7, 8, 9, 10, 11, 12], [], fun vs_ T_ => True, [0, 1], [2], [3], fun _ h_ => h_⟩]) (tks := [⟨some 6, none, [6], fun vs_ => Row (α := Int) 3 (fr0 vs_ 0) (x274)⟩, ⟨some 10, none, [10], fun vs_ => Row (α := Bool) 4 (fr0 vs_ 0) (x275)⟩, ⟨some 12, some 13, [12], fun vs_ => Cells (ptrBlk (fr0 vs_ 0)) 85 #[(Value.bool (false)), (Value.slice none 0 0), (Value.slice none 0 0), (Value.slice none 0 0), (Value.slice none 0 0)]⟩, ⟨some 13, none, [6, 10, 12], fun vs_ => Cells (ptrBlk (fr0 vs_ 2)) 85 #[(Value.bool (x273)), (Value.slice none 0 0), (Value.slice none 0 0), (fr0 vs_ 0), (fr0 vs_ 1)]⟩]) (O := Row (α := Ref08_Frame) 85 (Value.slice z281 m281 k281) (s10.1) :: Row (α := Int) 3 (Value.slice z7 m7 k7) (s10.2.1) :: Row (α := Int) 3 (Value.slice z8 m8 k8) (s10.2.2) :: Fr) rfl (by kernel_rfl) I2441 ⟨?_, ?_, ?_, ?_, ?_, ?_, ?_, ?_, ?_, ?_, ?_, ?_, ?_, ?_, trivial⟩ ?_
    ·
     intro vs1486 f w1944 S1838 X1413 le1838 hA1413 hK1486 hI1502
     have I2447 : Inv w1944 S1838 (X1413) := hI1502
     refine opg_plain rfl rfl (op_move (v := (Value.int .i64 ((i7 : Int)))) rfl ((hK1486 10 (keep_of rfl)).trans e2066) ?_)
     refine ⟨_, _, rfl, PH.Le.refl _, ?_, ?_⟩
     ·
      exact rfl
     ·
      exact I2447
    ·
     intro vs1487 f w1945 S1839 X1414 le1839 hA1414 hK1487 hI1503
     have I2448 : Inv w1945 S1839 (X1414) := hI1503
     refine opg_plain rfl rfl (op_move (v := (Value.slice z2 m2 k2)) rfl ((hK1487 2 (keep_of rfl)).trans e2061) ?_)
     refine ⟨_, _, rfl, PH.Le.refl _, ?_, ?_⟩
     ·
      exact rfl
     ·
      exact I2448
    ·
     intro vs1488 f w1946 S1840 X1415 le1840 hA1415 hK1488 hI1504
     have I2449 : Inv w1946 S1840 (X1415) := hI1504
     have q1985 : f 28 = (Value.int .i64 ((i7 : Int))) := vt (hA1415.at_ 0 rfl _ rfl) rfl
     have q1986 : f 29 = (Value.slice z2 m2 k2) := vt (hA1415.at_ 1 rfl _ rfl) rfl
     refine opg_plain rfl rfl (op_call_v (vs := [(Value.int .i64 ((i7 : Int))), (Value.slice z2 m2 k2)]) (r := (Value.bool (x273))) rfl ca33 rfl (args2 q1985 q1986) I2449 (fun Fr_ hF_ => F33_ok hF_ (h2_.mono (((le1.trans le10).trans le1837).trans le1840)) hx273) (fun w1947 I2450 => ?_))
     refine ⟨_, _, rfl, PH.Le.refl _, ?_, ?_⟩
     ·
      exact rfl
     ·
      exact I2450
    ·
     intro vs1489 f w1948 S1841 X1416 le1841 hA1416 hK1489 hI1505
     have I2451 : Inv w1948 S1841 (X1416) := hI1505
     refine opg_plain rfl rfl (op_fieldAddr_t (v := (Value.pointer (some ⟨g1, 0, none⟩))) rfl fa24_1 ((hK1489 3 (keep_of rfl)).trans e2062) ((p1.mono ((le10.trans le1837).trans le1841)).at_ I2451) ?_)
     refine ⟨_, _, rfl, PH.Le.refl _, ?_, ?_⟩
     ·
      exact rfl
     ·
      exact I2451
    ·
     intro vs1490 f w1949 S1842 X1417 le1842 hA1417 hK1490 hI1506
     have I2452 : Inv w1949 S1842 (X1417) := hI1506
     have q1987 : f 31 = (fieldPtr (Value.pointer (some ⟨g1, 0, none⟩)) 1) := vt (hA1417.at_ 0 rfl _ rfl) rfl
     refine opg_plain rfl rfl (op_load (v := (fieldPtr (Value.pointer (some ⟨g1, 0, none⟩)) 1)) (e := a0.Doors) rfl sh22 q1987 (((p1.mono ((le10.trans le1837).trans le1842)).at_ I2452).fld Panel.fld1) (fun u351 hu321 => ?_))
     obtain ⟨z283, m283, k283, e2067⟩ := rv_form hu321
     subst e2067
     refine ⟨_, _, rfl, PH.Le.refl _, ?_, ?_⟩
     ·
      exact hu321
     ·
      exact I2452
    ·
     intro vs1491 f w1950 S1843 X1418 le1843 hA1418 hK1491 hI1507
     have I2453 : Inv w1950 S1843 (X1418) := hI1507
     have q1988 : f 32 = vs1491 4 := (hA1418.at_ 1 rfl _ rfl).1 _ rfl
     have r602 : RV S1843 (vs1491 4) a0.Doors := (hA1418.at_ 1 rfl _ rfl).2
     obtain ⟨u352, hu322⟩ : ∃ u, vs1491 4 = u := ⟨_, rfl⟩
     rw [hu322] at q1988 r602
     obtain ⟨z284, m284, k284, e2068⟩ := rv_form r602
     subst e2068
     refine opg_plain rfl rfl (op_len_rv rfl Try.underlying22 q1988 r602 ?_)
     refine ⟨_, _, rfl, PH.Le.refl _, ?_, ?_⟩
     ·
      exact rfl
     ·
      exact I2453
    ·
     intro vs1492 f w1951 S1844 X1419 le1844 hA1419 hK1492 hI1508
     have I2454 : Inv w1951 S1844 (X1419) := hI1508
     have q1989 : f 33 = (Value.int .i64 ((a0.Doors.length : Int))) := vt (hA1419.at_ 2 rfl _ rfl) rfl
     refine opg_plain rfl rfl (op_makeSlice (c := (a0.Doors.length : Int)) rfl Try.underlying34 el3 (by decide) q1989 q1989 I2454 hx274 (fun u353 w1952 I2455 => ?_))
     obtain ⟨z285, m285, k285, e2069⟩ := row_form I2455
     subst e2069
     refine ⟨_, _, rfl, PH.Le.refl _, ?_, ?_⟩
     ·
      exact ⟨_, _, _, rfl⟩
     ·
      exact I2455
    ·
     intro vs1493 f w1953 S1845 X1420 le1845 hA1420 hK1493 hI1509
     have I2456 : Inv w1953 S1845 (X1420) := hI1509
     refine opg_plain rfl rfl (op_fieldAddr_t (v := (Value.pointer (some ⟨g1, 0, none⟩))) rfl fa24_1 ((hK1493 3 (keep_of rfl)).trans e2062) ((p1.mono ((le10.trans le1837).trans le1845)).at_ I2456) ?_)
     refine ⟨_, _, rfl, PH.Le.refl _, ?_, ?_⟩
     ·
      exact rfl
     ·
      exact I2456
    ·
     intro vs1494 f w1954 S1846 X1421 le1846 hA1421 hK1494 hI1510
     have I2457 : Inv w1954 S1846 (X1421) := hI1510
     have q1990 : f 35 = (fieldPtr (Value.pointer (some ⟨g1, 0, none⟩)) 1) := vt (hA1421.at_ 0 rfl _ rfl) rfl
     refine opg_plain rfl rfl (op_load (v := (fieldPtr (Value.pointer (some ⟨g1, 0, none⟩)) 1)) (e := a0.Doors) rfl sh22 q1990 (((p1.mono ((le10.trans le1837).trans le1846)).at_ I2457).fld Panel.fld1) (fun u354 hu323 => ?_))
     obtain ⟨z286, m286, k286, e2070⟩ := rv_form hu323
     subst e2070
     refine ⟨_, _, rfl, PH.Le.refl _, ?_, ?_⟩
     ·
      exact hu323
     ·
      exact I2457
    ·
     intro vs1495 f w1955 S1847 X1422 le1847 hA1422 hK1495 hI1511
     have I2458 : Inv w1955 S1847 (X1422) := hI1511
     have q1991 : f 36 = vs1495 8 := (hA1422.at_ 1 rfl _ rfl).1 _ rfl
     have r603 : RV S1847 (vs1495 8) a0.Doors := (hA1422.at_ 1 rfl _ rfl).2
     obtain ⟨u355, hu324⟩ : ∃ u, vs1495 8 = u := ⟨_, rfl⟩
     rw [hu324] at q1991 r603
     obtain ⟨z287, m287, k287, e2071⟩ := rv_form r603
     subst e2071
     refine opg_plain rfl rfl (op_len_rv rfl Try.underlying22 q1991 r603 ?_)
     refine ⟨_, _, rfl, PH.Le.refl _, ?_, ?_⟩
     ·
      exact rfl
     ·
      exact I2458
    ·
     intro vs1496 f w1956 S1848 X1423 le1848 hA1423 hK1496 hI1512
     have I2459 : Inv w1956 S1848 (X1423) := hI1512
     have q1992 : f 37 = (Value.int .i64 ((a0.Doors.length : Int))) := vt (hA1423.at_ 2 rfl _ rfl) rfl
     refine opg_plain rfl rfl (op_makeSlice (c := (a0.Doors.length : Int)) rfl Try.underlying83 el4 (by decide) q1992 q1992 I2459 hx275 (fun u356 w1957 I2460 => ?_))
     obtain ⟨z288, m288, k288, e2072⟩ := row_form I2460
     subst e2072
     refine ⟨_, _, rfl, PH.Le.refl _, ?_, ?_⟩
     ·
      exact ⟨_, _, _, rfl⟩
     ·
      exact I2460
    ·
     intro vs1497 f w1958 S1849 X1424 le1849 hA1424 hK1497 hI1513
     have I2461 : Inv w1958 S1849 (X1424) := hI1513
     have q1993 : f 30 = (Value.bool (x273)) := vt (hA1424.at_ 2 rfl _ rfl) rfl
     obtain ⟨z289, m289, k289, e2073⟩ := (hA1424.at_ 6 rfl _ rfl).2
     have q1994 : f 34 = Value.slice z289 m289 k289 := ((hA1424.at_ 6 rfl _ rfl).1 _ rfl).trans e2073
     have e2073 : vs1497 6 = (Value.slice z289 m289 k289) := e2073
     obtain ⟨z290, m290, k290, e2074⟩ := (hA1424.at_ 10 rfl _ rfl).2
     have q1995 : f 38 = Value.slice z290 m290 k290 := ((hA1424.at_ 10 rfl _ rfl).1 _ rfl).trans e2074
     have e2074 : vs1497 10 = (Value.slice z290 m290 k290) := e2074
     refine opg_plain rfl rfl (op_build (qs := [(0, #[(Value.bool (x273))]), (3, #[(Value.slice z289 m289 k289)]), (4, #[(Value.slice z290 m290 k290)])]) (c := #[(Value.bool (x273)), (Value.slice none 0 0), (Value.slice none 0 0), (Value.slice z289 m289 k289), (Value.slice z290 m290 k290)]) rfl st85 ⟨rfl, (cells_of q1993 rfl), ⟨rfl, (cells_of q1994 rfl), ⟨rfl, (cells_of q1995 rfl), trivial⟩⟩⟩ rfl ?_)
     refine ⟨_, _, rfl, PH.Le.refl _, ?_, ?_⟩
     ·
      show (Value.agg #[(Value.bool (x273)), (Value.slice none 0 0), (Value.slice none 0 0), (Value.slice z289 m289 k289), (Value.slice z290 m290 k290)]) = (Value.agg #[(Value.bool (x273)), (Value.slice none 0 0), (Value.slice none 0 0), (vs1497 6), (vs1497 10)])
      simp only [e2073, e2074] <;> rfl
     ·
      exact I2461
    ·
     intro vs1498 f w1959 S1850 X1425 le1850 hA1425 hK1498 hI1514
     have I2462 : Inv w1959 S1850 (X1425) := hI1514
     refine opg_plain rfl rfl (op_alloc (z := (Value.agg #[(Value.bool (false)), (Value.slice none 0 0), (Value.slice none 0 0), (Value.slice none 0 0), (Value.slice none 0 0)])) rfl I2462 zo85 (fun g11 w1960 (I2463 : Inv w1960 S1850 (Cells g11 85 #[(Value.bool (false)), (Value.slice none 0 0), (Value.slice none 0 0), (Value.slice none 0 0), (Value.slice none 0 0)] :: X1425)) => ?_))
     refine ⟨_, _, rfl, PH.Le.refl _, ?_, ?_⟩
     ·
      exact ⟨_, rfl⟩
     ·
      exact I2463
    ·
     intro vs1499 f w1961 S1851 X1426 le1851 hA1426 hK1499 hI1515
     have I2464 : Inv w1961 S1851 (Cells (ptrBlk (vs1499 12)) 85 #[(Value.bool (false)), (Value.slice none 0 0), (Value.slice none 0 0), (Value.slice none 0 0), (Value.slice none 0 0)] :: Row (α := Int) 3 (vs1499 6) (x274) :: Row (α := Bool) 4 (vs1499 10) (x275) :: X1426) := hI1515
     have q1996 : f 30 = (Value.bool (x273)) := vt (hA1426.at_ 2 rfl _ rfl) rfl
     obtain ⟨z291, m291, k291, e2075⟩ := (hA1426.at_ 6 rfl _ rfl).2
     have q1997 : f 34 = Value.slice z291 m291 k291 := ((hA1426.at_ 6 rfl _ rfl).1 _ rfl).trans e2075
     have e2075 : vs1499 6 = (Value.slice z291 m291 k291) := e2075
     have I2465 := I2464
     rw [e2075] at I2465
     obtain ⟨z292, m292, k292, e2076⟩ := (hA1426.at_ 10 rfl _ rfl).2
     have q1998 : f 38 = Value.slice z292 m292 k292 := ((hA1426.at_ 10 rfl _ rfl).1 _ rfl).trans e2076
     have e2076 : vs1499 10 = (Value.slice z292 m292 k292) := e2076
     have I2466 := I2465
     rw [e2076] at I2466
     have q1999 : f 39 = (Value.agg #[(Value.bool (x273)), (Value.slice none 0 0), (Value.slice none 0 0), (vs1499 6), (vs1499 10)]) := vt (hA1426.at_ 11 rfl _ rfl) rfl
     simp only [e2075, e2076] at q1999
     have q1999 : f 39 = (Value.agg #[(Value.bool (x273)), (Value.slice none 0 0), (Value.slice none 0 0), (Value.slice z291 m291 k291), (Value.slice z292 m292 k292)]) := q1999
     obtain ⟨g12, e2077⟩ := (hA1426.at_ 12 rfl _ rfl).2
     have q2000 : f 11 = Value.pointer (some ⟨g12, 0, none⟩) := ((hA1426.at_ 12 rfl _ rfl).1 _ rfl).trans e2077
     have e2077 : vs1499 12 = Value.pointer (some ⟨g12, 0, none⟩) := e2077
     have I2467 := I2466
     rw [e2077] at I2467
     refine opg_plain rfl rfl (op_store (v := (Value.agg #[(Value.bool (x273)), (Value.slice none 0 0), (Value.slice none 0 0), (Value.slice z291 m291 k291), (Value.slice z292 m292 k292)])) (cs := #[(Value.bool (false)), (Value.slice none 0 0), (Value.slice none 0 0), (Value.slice none 0 0), (Value.slice none 0 0)]) sh85 I2467 q2000 q1999 rfl (Nat.le_of_ble_eq_true rfl) rfl (fun w1962 (I2468 : Inv w1962 S1851 (Cells (ptrBlk (Value.pointer (some ⟨g12, 0, none⟩))) 85 #[(Value.bool (x273)), (Value.slice none 0 0), (Value.slice none 0 0), (Value.slice z291 m291 k291), (Value.slice z292 m292 k292)] :: Row (α := Int) 3 (Value.slice z291 m291 k291) (x274) :: Row (α := Bool) 4 (Value.slice z292 m292 k292) (x275) :: X1426)) => ?_))
     refine ⟨undef, _, rfl, PH.Le.refl _, ?_, ?_⟩
     ·
      exact trivial
     ·
      show Inv _ _ (Cells (ptrBlk (vs1499 12)) 85 #[(Value.bool (x273)), (Value.slice none 0 0), (Value.slice none 0 0), (vs1499 6), (vs1499 10)] :: Row (α := Int) 3 (vs1499 6) (x274) :: Row (α := Bool) 4 (vs1499 10) (x275) :: X1426)
      simp only [e2075, e2076, e2077]
      exact (((I2468.pull 2).pull 2).pull 2)
    ·
     intro vs1500 f w1963 S1852 le1852 hF74 hK1500 hI1516
     have e2078 : f 1 = (Value.int .i64 (a1)) := (hK1500 1 (keep_all rfl)).trans e2060
     have e2079 : f 2 = (Value.slice z2 m2 k2) := (hK1500 2 (keep_all rfl)).trans e2061
     have e2080 : f 3 = (Value.pointer (some ⟨g1, 0, none⟩)) := (hK1500 3 (keep_all rfl)).trans e2062
     have e2081 : f 7 = (Value.slice z281 m281 k281) := (hK1500 7 (keep_all rfl)).trans e2063
     have e2082 : f 8 = (Value.slice z7 m7 k7) := (hK1500 8 (keep_all rfl)).trans e2064
     have e2083 : f 9 = (Value.slice z8 m8 k8) := (hK1500 9 (keep_all rfl)).trans e2065
     have e2084 : f 10 = (Value.int .i64 ((i7 : Int))) := (hK1500 10 (keep_all rfl)).trans e2066
     have I2469 : Inv w1963 S1852 (Row (α := Int) 3 (vs1500 6) (x274) :: Row (α := Bool) 4 (vs1500 10) (x275) :: Cells (ptrBlk (vs1500 12)) 85 #[(Value.bool (x273)), (Value.slice none 0 0), (Value.slice none 0 0), (vs1500 6), (vs1500 10)] :: Row (α := Ref08_Frame) 85 (Value.slice z281 m281 k281) (s10.1) :: Row (α := Int) 3 (Value.slice z7 m7 k7) (s10.2.1) :: Row (α := Int) 3 (Value.slice z8 m8 k8) (s10.2.2) :: Fr) := hI1516
     obtain ⟨z293, m293, k293, e2085⟩ := (hF74.at_ 6 rfl _ rfl).2
     have q2001 : f 34 = Value.slice z293 m293 k293 := ((hF74.at_ 6 rfl _ rfl).1 _ rfl).trans e2085
     have e2085 : vs1500 6 = (Value.slice z293 m293 k293) := e2085
     have I2470 := I2469
     rw [e2085] at I2470
     obtain ⟨z294, m294, k294, e2086⟩ := (hF74.at_ 10 rfl _ rfl).2
     have q2002 : f 38 = Value.slice z294 m294 k294 := ((hF74.at_ 10 rfl _ rfl).1 _ rfl).trans e2086
     have e2086 : vs1500 10 = (Value.slice z294 m294 k294) := e2086
     have I2471 := I2470
     rw [e2086] at I2471
     obtain ⟨g13, e2087⟩ := (hF74.at_ 12 rfl _ rfl).2
     have q2003 : f 11 = Value.pointer (some ⟨g13, 0, none⟩) := ((hF74.at_ 12 rfl _ rfl).1 _ rfl).trans e2087
     have e2087 : vs1500 12 = Value.pointer (some ⟨g13, 0, none⟩) := e2087
     have I2472 := I2471
     rw [e2087] at I2472
     refine wp_seq' ?_
     refine wp_region' ?_
     refine wl_op rfl (op_load (v := (Value.pointer (some ⟨g1, 0, none⟩))) (e := a0) rfl sh24 e2080 ((p1.mono ((le10.trans le1837).trans le1852)).at_ I2472) (fun u357 hu325 => ?_))
     obtain ⟨c119, e2088, r604⟩ := Panel.inv hu325
     subst e2088
     obtain ⟨z295, m295, k295, e2089⟩ := rv_form r604
     subst e2089
     refine wl_op rfl (op_move (v := (Value.int .i64 ((i7 : Int)))) rfl e2084 ?_)
     refine wl_op rfl (op_move (v := (Value.slice z2 m2 k2)) rfl e2079 ?_)
     obtain ⟨x276, hx276, h154⟩ := bnd h154
     refine wl_op rfl (op_call (vs := [(Value.agg #[(Value.int .i64 (a0.Sensors)), (Value.slice z295 m295 k295), (Value.int .i64 (a0.Stale)), (Value.int .i64 (a0.Limit))]), (Value.int .i64 ((i7 : Int))), (Value.slice z2 m2 k2)]) rfl ca24 rfl (args3 rfl rfl rfl) (F24_ok I2472 (Panel.rv (s := a0) r604) (h2_.mono (((le1.trans le10).trans le1837).trans le1852)) hx276) (fun v187 w1964 S1853 O142 le1853 I2473 hv142 => ?_))
     obtain ⟨z296, m296, k296, rfl, rfl⟩ := hv142
     refine wl_op rfl (op_assign (v := (Value.slice z296 m296 k296)) rfl rfl ?_)
     refine wl_nil ?_
     refine wp_seq' ?_
     refine wp_seq' ?_
     refine wp_region' ?_
     refine wl_op rfl (op_assign (v := (Value.int .i64 (0))) rfl rfl ?_)
     refine wl_nil ?_
     obtain ⟨x298, hx298, h154⟩ := bnd h154
     obtain ⟨out11, hrun11, h154⟩ := bnd h154
     refine wp_cutN (fun f w => Inv w S1853 (Row (α := Ref08_Frame) 85 (Value.slice z281 m281 k281) (s10.1) :: Row (α := Int) 3 (Value.slice z7 m7 k7) (out11.1) :: Row (α := Int) 3 (Value.slice z8 m8 k8) (out11.2) :: Cells (ptrBlk (Value.pointer (some ⟨g13, 0, none⟩))) 85 #[(Value.bool (x273)), (Value.slice none 0 0), (Value.slice none 0 0), (Value.slice z293 m293 k293), (Value.slice z294 m294 k294)] :: Row (α := Int) 3 (Value.slice z293 m293 k293) (x274) :: Row (α := Bool) 4 (Value.slice z294 m294 k294) (x275) :: Row (α := Int) 3 (Value.slice z296 m296 k296) (x276) :: Fr) ∧ f 1 = (Value.int .i64 (a1)) ∧ f 2 = (Value.slice z2 m2 k2) ∧ f 3 = (Value.pointer (some ⟨g1, 0, none⟩)) ∧ f 7 = (Value.slice z281 m281 k281) ∧ f 8 = (Value.slice z7 m7 k7) ∧ f 9 = (Value.slice z8 m8 k8) ∧ f 10 = (Value.int .i64 ((i7 : Int))) ∧ f 11 = (Value.pointer (some ⟨g13, 0, none⟩)) ∧ f 12 = (Value.slice z296 m296 k296)) ?_ ?_
     ·
      refine wp_block' ?_
      refine wp_forS (I := fun (i8 : Nat) (s11 : (List Int × List Int)) (f : Frm) (w : World) => Inv w S1853 (Row (α := Ref08_Frame) 85 (Value.slice z281 m281 k281) (s10.1) :: Row (α := Int) 3 (Value.slice z7 m7 k7) (s11.1) :: Row (α := Int) 3 (Value.slice z8 m8 k8) (s11.2) :: Cells (ptrBlk (Value.pointer (some ⟨g13, 0, none⟩))) 85 #[(Value.bool (x273)), (Value.slice none 0 0), (Value.slice none 0 0), (Value.slice z293 m293 k293), (Value.slice z294 m294 k294)] :: Row (α := Int) 3 (Value.slice z293 m293 k293) (x274) :: Row (α := Bool) 4 (Value.slice z294 m294 k294) (x275) :: Row (α := Int) 3 (Value.slice z296 m296 k296) (x276) :: Fr) ∧ f 1 = (Value.int .i64 (a1)) ∧ f 2 = (Value.slice z2 m2 k2) ∧ f 3 = (Value.pointer (some ⟨g1, 0, none⟩)) ∧ f 7 = (Value.slice z281 m281 k281) ∧ f 8 = (Value.slice z7 m7 k7) ∧ f 9 = (Value.slice z8 m8 k8) ∧ f 10 = (Value.int .i64 ((i7 : Int))) ∧ f 11 = (Value.pointer (some ⟨g13, 0, none⟩)) ∧ f 12 = (Value.slice z296 m296 k296) ∧ f 13 = (Value.int .i64 (i8 : Int))) hrun11 ⟨((((((I2473.pull 2).pull 2).pull 3).pull 6).pull 6).pull 6), e2078, e2079, e2080, e2081, e2082, e2083, e2084, q2003, rfl, rfl⟩ ?_ ?_
      ·
       rintro i8 s11 f w o11 hlt8 hI1517 h165
       obtain ⟨I2495, e2153, e2154, e2155, e2156, e2157, e2158, e2159, e2160, e2161, e2162⟩ := hI1517
       refine wp_seq' ?_
       refine wp_seq' ?_
       refine wp_region' ?_
       refine wl_op rfl (op_move (v := (Value.int .i64 ((i8 : Int)))) rfl e2162 ?_)
       refine wl_op rfl (op_fieldAddr_t (v := (Value.pointer (some ⟨g1, 0, none⟩))) rfl fa24_0 e2155 ((p1.mono (((le10.trans le1837).trans le1852).trans le1853)).at_ I2495) ?_)
       refine wl_op rfl (op_load_int (v := (fieldPtr (Value.pointer (some ⟨g1, 0, none⟩)) 0)) (e := a0.Sensors) rfl sh3 rfl (((p1.mono (((le10.trans le1837).trans le1852).trans le1853)).at_ I2495).fld Panel.fld0) ?_)
       refine wl_op rfl (op_lss (a := (i8 : Int)) (b := a0.Sensors) rfl rfl rfl ?_)
       refine wl_nil ?_
       refine wp_cond_t (b := decide ((i8 : Int) < a0.Sensors)) rfl (cnt_t hx298 hlt8) ?_
       refine wp_skip' ?_
       refine wp_seq' ?_
       refine wp_block' ?_
       refine wp_seq' ?_
       refine wp_region' ?_
       refine wl_op rfl (op_move (v := (Value.slice z8 m8 k8)) rfl e2158 ?_)
       refine wl_op rfl (op_move (v := (Value.int .i64 ((i8 : Int)))) rfl e2162 ?_)
       obtain ⟨x299, hx299, h165⟩ := bnd h165
       refine wl_op rfl (op_indexAddr_src (v := (Value.slice z8 m8 k8)) (i := (i8 : Int)) (e := x299) rfl Try.underlying34 sh3 rfl (Inv.rowSrc (I2495.nth 2 rfl)) rfl hx299 ?_)
       refine wl_op rfl (op_load_int (v := (elemPtr (Value.slice z8 m8 k8) ((i8 : Int)) (Enc.sz Int))) (e := x299) rfl sh3 rfl ((I2495.nth 2 rfl).rowElem hx299) ?_)
       refine wl_op rfl (op_add (a := x299) (b := 1) rfl rfl rfl ?_)
       obtain ⟨x300, hx300, h165⟩ := bnd h165
       refine wl_op rfl (op_indexAddr_src (v := (Value.slice z8 m8 k8)) (i := (i8 : Int)) (e := x300) rfl Try.underlying34 sh3 rfl (Inv.rowSrc (I2495.nth 2 rfl)) rfl hx300 ?_)
       refine wl_op rfl (op_storeRow (u := (Value.int .i64 (w64 (x299 + 1)))) (e' := w64 (x299 + 1)) sh3 (I2495.pull 2) rfl rfl hx300 (rv_int' _) (fun w1980 I2496 => ?_))
       refine wl_nil ?_
       obtain ⟨v191, h168, h165⟩ := bnd h165
       refine wp_cut (fun f w => Inv w S1853 (Row (α := Ref08_Frame) 85 (Value.slice z281 m281 k281) (s10.1) :: Row (α := Int) 3 (Value.slice z7 m7 k7) (s11.1) :: Row (α := Int) 3 (Value.slice z8 m8 k8) (s11.2.set ((i8 : Int)).toNat (w64 (x299 + 1))) :: Cells (ptrBlk (Value.pointer (some ⟨g13, 0, none⟩))) 85 #[(Value.bool (x273)), (Value.slice none 0 0), (Value.slice none 0 0), (Value.slice z293 m293 k293), (Value.slice z294 m294 k294)] :: Row (α := Int) 3 (Value.slice z293 m293 k293) (x274) :: Row (α := Bool) 4 (Value.slice z294 m294 k294) (x275) :: Row (α := Int) 3 (Value.slice z296 m296 k296) (x276) :: Fr) ∧ f 1 = (Value.int .i64 (a1)) ∧ f 2 = (Value.slice z2 m2 k2) ∧ f 3 = (Value.pointer (some ⟨g1, 0, none⟩)) ∧ f 7 = (Value.slice z281 m281 k281) ∧ f 8 = (Value.slice z7 m7 k7) ∧ f 9 = (Value.slice z8 m8 k8) ∧ f 10 = (Value.int .i64 ((i7 : Int))) ∧ f 11 = (Value.pointer (some ⟨g13, 0, none⟩)) ∧ f 12 = (Value.slice z296 m296 k296) ∧ f 13 = (Value.int .i64 ((i8 : Int))) ∧ f 64 = (Value.bool (v191))) ?_ ?_
       ·
        refine wp_region' ?_
        refine wl_op rfl (op_fieldAddr (v := (Value.pointer (some ⟨g13, 0, none⟩))) rfl fa85_0 e2160 rfl ?_)
        refine wl_op rfl (op_load1 (c := (Value.bool (x273))) rfl sh4 (I2496.nth 3 rfl) rfl rfl ?_)
        refine wl_op rfl (op_move (v := (Value.bool (x273))) rfl rfl ?_)
        rcases ifs h168 with ⟨hc191, h168⟩ | ⟨hc191, h168⟩
        ·
         refine wl_taken (c := x273) rfl rfl rfl rfl hc191 (op_move (v := (Value.slice z2 m2 k2)) rfl e2154 ?_)
         refine wl_taken (c := x273) rfl rfl rfl rfl hc191 (op_move (v := (Value.int .i64 ((i7 : Int)))) rfl e2159 ?_)
         refine wl_taken (c := x273) rfl rfl rfl rfl hc191 (op_move (v := (Value.int .i64 ((i8 : Int)))) rfl e2162 ?_)
         obtain ⟨x302, hx302, h168⟩ := bnd h168
         refine wl_taken (c := x273) rfl rfl rfl rfl hc191 (op_call_v (vs := [(Value.slice z2 m2 k2), (Value.int .i64 ((i7 : Int))), (Value.int .i64 (2)), (Value.int .i64 ((i8 : Int)))]) (r := (Value.bool (x302))) rfl ca70 rfl (args4 rfl rfl rfl rfl) I2496 (fun Fr_ hF_ => F70_ok hF_ (h2_.mono ((((le1.trans le10).trans le1837).trans le1852).trans le1853)) hx302) (fun w1982 I2498 => ?_))
         refine wl_taken (c := x273) rfl rfl rfl rfl hc191 (op_not (b := x302) rfl rfl ?_)
         refine wl_op rfl (op_pick_t (c := x273) (a := (Value.bool (!x302))) rfl rfl hc191 rfl ?_)
         refine wl_nil ?_
         obtain rfl := Option.some.inj h168
         exact ⟨(((((((I2498.pull 6).pull 6).pull 6).pull 6).pull 4).pull 6).pull 6), e2153, e2154, e2155, e2156, e2157, e2158, e2159, e2160, e2161, e2162, rfl⟩
        ·
         refine wl_skip (c := x273) rfl rfl rfl rfl hc191 rfl ?_
         refine wl_skip (c := x273) rfl rfl rfl rfl hc191 rfl ?_
         refine wl_skip (c := x273) rfl rfl rfl rfl hc191 rfl ?_
         refine wl_skip (c := x273) rfl rfl rfl rfl hc191 rfl ?_
         refine wl_skip (c := x273) rfl rfl rfl rfl hc191 rfl ?_
         refine wl_op rfl (op_pick_f (c := x273) (b := (Value.bool (false))) rfl rfl hc191 rfl ?_)
         refine wl_nil ?_
         obtain rfl := Option.some.inj h168
         exact ⟨(((((((I2496.pull 6).pull 6).pull 6).pull 6).pull 4).pull 6).pull 6), e2153, e2154, e2155, e2156, e2157, e2158, e2159, e2160, e2161, e2162, rfl⟩
       ·
        rintro f w ⟨I2499, e2163, e2164, e2165, e2166, e2167, e2168, e2169, e2170, e2171, e2172, e2173⟩
        rcases ifs h165 with ⟨hc192, h165⟩ | ⟨hc192, h165⟩
        ·
         refine wp_cond_t (b := v191) e2173 hc192 ?_
         refine wp_seq' ?_
         refine wp_region' ?_
         refine wl_op rfl (op_move (v := (Value.slice z7 m7 k7)) rfl e2167 ?_)
         refine wl_op rfl (op_move (v := (Value.int .i64 ((i8 : Int)))) rfl e2172 ?_)
         refine wl_op rfl (op_move (v := (Value.slice z296 m296 k296)) rfl e2171 ?_)
         refine wl_op rfl (op_move (v := (Value.int .i64 ((i8 : Int)))) rfl e2172 ?_)
         obtain ⟨x303, hx303, h165⟩ := bnd h165
         refine wl_op rfl (op_indexAddr_src (v := (Value.slice z296 m296 k296)) (i := (i8 : Int)) (e := x303) rfl Try.underlying34 sh3 rfl (Inv.rowSrc (I2499.nth 6 rfl)) rfl hx303 ?_)
         refine wl_op rfl (op_load_int (v := (elemPtr (Value.slice z296 m296 k296) ((i8 : Int)) (Enc.sz Int))) (e := x303) rfl sh3 rfl ((I2499.nth 6 rfl).rowElem hx303) ?_)
         obtain ⟨x304, hx304, h165⟩ := bnd h165
         refine wl_op rfl (op_indexAddr_src (v := (Value.slice z7 m7 k7)) (i := (i8 : Int)) (e := x304) rfl Try.underlying34 sh3 rfl (Inv.rowSrc (I2499.nth 1 rfl)) rfl hx304 ?_)
         refine wl_op rfl (op_storeRow (u := (Value.int .i64 (x303))) (e' := x303) sh3 (I2499.pull 1) rfl rfl hx304 (rv_int' _) (fun w1983 I2500 => ?_))
         refine wl_nil ?_
         refine wp_region' ?_
         refine wl_op rfl (op_move (v := (Value.slice z8 m8 k8)) rfl e2168 ?_)
         refine wl_op rfl (op_move (v := (Value.int .i64 ((i8 : Int)))) rfl e2172 ?_)
         obtain ⟨x305, hx305, h165⟩ := bnd h165
         refine wl_op rfl (op_indexAddr_src (v := (Value.slice z8 m8 k8)) (i := (i8 : Int)) (e := x305) rfl Try.underlying34 sh3 rfl (Inv.rowSrc (I2500.nth 2 rfl)) rfl hx305 ?_)
         refine wl_op rfl (op_storeRow (u := (Value.int .i64 (0))) (e' := 0) sh3 (I2500.pull 2) rfl rfl hx305 (rv_int' _) (fun w1984 I2501 => ?_))
         refine wl_nil ?_
         refine wp_region' ?_
         refine wl_op rfl (op_move (v := (Value.int .i64 ((i8 : Int)))) rfl e2172 ?_)
         refine wl_op rfl (op_add (a := (i8 : Int)) (b := 1) rfl rfl rfl ?_)
         refine wl_op rfl (op_assign (v := (Value.int .i64 (w64 ((i8 : Int) + 1)))) rfl rfl ?_)
         refine wl_nil ?_
         obtain rfl := Option.some.inj h165
         exact ⟨(((((((I2501.pull 6).pull 6).pull 6).pull 6).pull 4).pull 5).pull 6), e2163, e2164, e2165, e2166, e2167, e2168, e2169, e2170, e2171, (idx_next hlt8 (cnt_le hx298))⟩
        ·
         refine wp_cond_f (b := v191) e2173 hc192 ?_
         refine wp_skip' ?_
         refine wp_region' ?_
         refine wl_op rfl (op_move (v := (Value.int .i64 ((i8 : Int)))) rfl e2172 ?_)
         refine wl_op rfl (op_add (a := (i8 : Int)) (b := 1) rfl rfl rfl ?_)
         refine wl_op rfl (op_assign (v := (Value.int .i64 (w64 ((i8 : Int) + 1)))) rfl rfl ?_)
         refine wl_nil ?_
         obtain rfl := Option.some.inj h165
         exact ⟨(((((((I2499.pull 6).pull 6).pull 6).pull 6).pull 6).pull 6).pull 6), e2163, e2164, e2165, e2166, e2167, e2168, e2169, e2170, e2171, (idx_next hlt8 (cnt_le hx298))⟩
      ·
       rintro f w hI1518
       obtain ⟨I2502, e2174, e2175, e2176, e2177, e2178, e2179, e2180, e2181, e2182, e2183⟩ := hI1518
       refine wp_seq' ?_
       refine wp_seq' ?_
       refine wp_region' ?_
       refine wl_op rfl (op_move (v := (Value.int .i64 ((x298 : Int)))) rfl e2183 ?_)
       refine wl_op rfl (op_fieldAddr_t (v := (Value.pointer (some ⟨g1, 0, none⟩))) rfl fa24_0 e2176 ((p1.mono (((le10.trans le1837).trans le1852).trans le1853)).at_ I2502) ?_)
       refine wl_op rfl (op_load_int (v := (fieldPtr (Value.pointer (some ⟨g1, 0, none⟩)) 0)) (e := a0.Sensors) rfl sh3 rfl (((p1.mono (((le10.trans le1837).trans le1852).trans le1853)).at_ I2502).fld Panel.fld0) ?_)
       refine wl_op rfl (op_lss (a := (x298 : Int)) (b := a0.Sensors) rfl rfl rfl ?_)
       refine wl_nil ?_
       refine wp_cond_f (b := decide ((x298 : Int) < a0.Sensors)) rfl (cnt_f hx298) ?_
       refine wp_exit' ?_
       exact ⟨(((((((I2502.pull 6).pull 6).pull 6).pull 6).pull 6).pull 6).pull 6), e2174, e2175, e2176, e2177, e2178, e2179, e2180, e2181, e2182⟩
     ·
      rintro f w ⟨I2503, e2184, e2185, e2186, e2187, e2188, e2189, e2190, e2191, e2192⟩
      refine wp_seq' ?_
      refine wp_region' ?_
      refine wl_op rfl (op_fieldAddr (v := (Value.pointer (some ⟨g13, 0, none⟩))) rfl fa85_1 e2191 rfl ?_)
      refine wl_op rfl (op_load1 (c := (Value.slice none 0 0)) rfl sh34 (I2503.nth 3 rfl) rfl rfl ?_)
      refine wl_op rfl (op_move (v := (Value.slice z7 m7 k7)) rfl e2188 ?_)
      have I2504 := Inv.rowNil (α := Int) (T := 3) I2503
      obtain ⟨x306, hx306, h154⟩ := bnd h154
      refine wl_op rfl (op_append (α := Int) (v := (Value.slice none 0 0)) (u := (Value.slice z7 m7 k7)) rfl rfl Try.underlying34 el3 (by decide) (by decide) rfl rfl I2504 (Inv.rowSrc (I2504.nth 2 rfl)) hx306 (fun u358 w1985 I2505 => ?_))
      obtain ⟨z297, m297, k297, e2193⟩ := row_form I2505
      subst e2193
      refine wl_op rfl (op_fieldAddr (v := (Value.pointer (some ⟨g13, 0, none⟩))) rfl fa85_1 e2191 rfl ?_)
      refine wl_op rfl (op_store (v := (Value.slice z297 m297 k297)) (cs := #[(Value.bool (x273)), (Value.slice none 0 0), (Value.slice none 0 0), (Value.slice z293 m293 k293), (Value.slice z294 m294 k294)]) sh34 (I2505.pull 4) rfl rfl rfl (Nat.le_of_ble_eq_true rfl) rfl (fun w1986 (I2506 : Inv w1986 S1853 (Cells (ptrBlk (Value.pointer (some ⟨g13, 0, none⟩))) 85 #[(Value.bool (x273)), (Value.slice z297 m297 k297), (Value.slice none 0 0), (Value.slice z293 m293 k293), (Value.slice z294 m294 k294)] :: Row (α := Int) 3 (Value.slice z297 m297 k297) (x306) :: Row (α := Ref08_Frame) 85 (Value.slice z281 m281 k281) (s10.1) :: Row (α := Int) 3 (Value.slice z7 m7 k7) (out11.1) :: Row (α := Int) 3 (Value.slice z8 m8 k8) (out11.2) :: Row (α := Int) 3 (Value.slice z293 m293 k293) (x274) :: Row (α := Bool) 4 (Value.slice z294 m294 k294) (x275) :: Row (α := Int) 3 (Value.slice z296 m296 k296) (x276) :: Fr)) => ?_))
      refine wl_nil ?_
      refine wp_seq' ?_
      refine wp_region' ?_
      refine wl_op rfl (op_fieldAddr (v := (Value.pointer (some ⟨g13, 0, none⟩))) rfl fa85_2 e2191 rfl ?_)
      refine wl_op rfl (op_load1 (c := (Value.slice none 0 0)) rfl sh34 (I2506.nth 0 rfl) rfl rfl ?_)
      refine wl_op rfl (op_move (v := (Value.slice z8 m8 k8)) rfl e2189 ?_)
      have I2507 := Inv.rowNil (α := Int) (T := 3) I2506
      obtain ⟨x307, hx307, h154⟩ := bnd h154
      refine wl_op rfl (op_append (α := Int) (v := (Value.slice none 0 0)) (u := (Value.slice z8 m8 k8)) rfl rfl Try.underlying34 el3 (by decide) (by decide) rfl rfl I2507 (Inv.rowSrc (I2507.nth 5 rfl)) hx307 (fun u359 w1987 I2508 => ?_))
      obtain ⟨z298, m298, k298, e2194⟩ := row_form I2508
      subst e2194
      refine wl_op rfl (op_fieldAddr (v := (Value.pointer (some ⟨g13, 0, none⟩))) rfl fa85_2 e2191 rfl ?_)
      refine wl_op rfl (op_store (v := (Value.slice z298 m298 k298)) (cs := #[(Value.bool (x273)), (Value.slice z297 m297 k297), (Value.slice none 0 0), (Value.slice z293 m293 k293), (Value.slice z294 m294 k294)]) sh34 (I2508.pull 1) rfl rfl rfl (Nat.le_of_ble_eq_true rfl) rfl (fun w1988 (I2509 : Inv w1988 S1853 (Cells (ptrBlk (Value.pointer (some ⟨g13, 0, none⟩))) 85 #[(Value.bool (x273)), (Value.slice z297 m297 k297), (Value.slice z298 m298 k298), (Value.slice z293 m293 k293), (Value.slice z294 m294 k294)] :: Row (α := Int) 3 (Value.slice z298 m298 k298) (x307) :: Row (α := Int) 3 (Value.slice z297 m297 k297) (x306) :: Row (α := Ref08_Frame) 85 (Value.slice z281 m281 k281) (s10.1) :: Row (α := Int) 3 (Value.slice z7 m7 k7) (out11.1) :: Row (α := Int) 3 (Value.slice z8 m8 k8) (out11.2) :: Row (α := Int) 3 (Value.slice z293 m293 k293) (x274) :: Row (α := Bool) 4 (Value.slice z294 m294 k294) (x275) :: Row (α := Int) 3 (Value.slice z296 m296 k296) (x276) :: Fr)) => ?_))
      refine wl_nil ?_
      refine wp_seq' ?_
      refine wp_seq' ?_
      refine wp_region' ?_
      refine wl_op rfl (op_assign (v := (Value.int .i64 (0))) rfl rfl ?_)
      refine wl_nil ?_
      obtain ⟨out12, hrun12, h154⟩ := bnd h154
      refine wp_cutN (fun f w => ∃ (S_ : PH), S1853.Le S_ ∧ Inv w S_ (Row (α := Ref08_Frame) 85 (Value.slice z281 m281 k281) (s10.1) :: Row (α := Int) 3 (Value.slice z7 m7 k7) (out11.1) :: Row (α := Int) 3 (Value.slice z8 m8 k8) (out11.2) :: Cells (ptrBlk (Value.pointer (some ⟨g13, 0, none⟩))) 85 #[(Value.bool (x273)), (Value.slice z297 m297 k297), (Value.slice z298 m298 k298), (Value.slice z293 m293 k293), (Value.slice z294 m294 k294)] :: Row (α := Int) 3 (Value.slice z297 m297 k297) (x306) :: Row (α := Int) 3 (Value.slice z298 m298 k298) (x307) :: Row (α := Int) 3 (Value.slice z293 m293 k293) (out12.1) :: Row (α := Bool) 4 (Value.slice z294 m294 k294) (x275) :: Fr) ∧ f 1 = (Value.int .i64 (a1)) ∧ f 2 = (Value.slice z2 m2 k2) ∧ f 3 = (Value.pointer (some ⟨g1, 0, none⟩)) ∧ f 7 = (Value.slice z281 m281 k281) ∧ f 8 = (Value.slice z7 m7 k7) ∧ f 9 = (Value.slice z8 m8 k8) ∧ f 10 = (Value.int .i64 ((i7 : Int))) ∧ f 11 = (Value.pointer (some ⟨g13, 0, none⟩)) ∧ f 14 = (Value.int .i64 (out12.2))) ?_ ?_
      ·
       refine wp_block' ?_
       refine wp_whileO (I := fun (s12 : (List Int × Int)) (f : Frm) (w : World) => ∃ (S_ : PH), S1853.Le S_ ∧ Inv w S_ (Row (α := Ref08_Frame) 85 (Value.slice z281 m281 k281) (s10.1) :: Row (α := Int) 3 (Value.slice z7 m7 k7) (out11.1) :: Row (α := Int) 3 (Value.slice z8 m8 k8) (out11.2) :: Cells (ptrBlk (Value.pointer (some ⟨g13, 0, none⟩))) 85 #[(Value.bool (x273)), (Value.slice z297 m297 k297), (Value.slice z298 m298 k298), (Value.slice z293 m293 k293), (Value.slice z294 m294 k294)] :: Row (α := Int) 3 (Value.slice z297 m297 k297) (x306) :: Row (α := Int) 3 (Value.slice z298 m298 k298) (x307) :: Row (α := Int) 3 (Value.slice z293 m293 k293) (s12.1) :: Row (α := Bool) 4 (Value.slice z294 m294 k294) (x275) :: Fr) ∧ f 1 = (Value.int .i64 (a1)) ∧ f 2 = (Value.slice z2 m2 k2) ∧ f 3 = (Value.pointer (some ⟨g1, 0, none⟩)) ∧ f 7 = (Value.slice z281 m281 k281) ∧ f 8 = (Value.slice z7 m7 k7) ∧ f 9 = (Value.slice z8 m8 k8) ∧ f 10 = (Value.int .i64 ((i7 : Int))) ∧ f 11 = (Value.pointer (some ⟨g13, 0, none⟩)) ∧ f 14 = (Value.int .i64 (s12.2))) hrun12 ⟨_, (PH.Le.refl _), (((((((((I2509.pull 8).drop.pull 7).pull 7).pull 3).pull 4).pull 4).pull 7).pull 7).pull 7), e2184, e2185, e2186, e2187, e2188, e2189, e2190, e2191, rfl⟩ ?_
       rintro s12 f w o12 hI1585 h188 hout12
       obtain ⟨S1948, le1948, I2636, e2393, e2394, e2395, e2396, e2397, e2398, e2399, e2400, e2401⟩ := hI1585
       obtain ⟨ov210, h191, h188⟩ := bnd h188
       refine wp_cut (fun f w => ∃ v210, ov210 = Sum.inl v210 ∧ Inv w S1948 (Row (α := Ref08_Frame) 85 (Value.slice z281 m281 k281) (s10.1) :: Row (α := Int) 3 (Value.slice z7 m7 k7) (out11.1) :: Row (α := Int) 3 (Value.slice z8 m8 k8) (out11.2) :: Cells (ptrBlk (Value.pointer (some ⟨g13, 0, none⟩))) 85 #[(Value.bool (x273)), (Value.slice z297 m297 k297), (Value.slice z298 m298 k298), (Value.slice z293 m293 k293), (Value.slice z294 m294 k294)] :: Row (α := Int) 3 (Value.slice z297 m297 k297) (x306) :: Row (α := Int) 3 (Value.slice z298 m298 k298) (x307) :: Row (α := Int) 3 (Value.slice z293 m293 k293) (s12.1) :: Row (α := Bool) 4 (Value.slice z294 m294 k294) (x275) :: Fr) ∧ f 1 = (Value.int .i64 (a1)) ∧ f 2 = (Value.slice z2 m2 k2) ∧ f 3 = (Value.pointer (some ⟨g1, 0, none⟩)) ∧ f 7 = (Value.slice z281 m281 k281) ∧ f 8 = (Value.slice z7 m7 k7) ∧ f 9 = (Value.slice z8 m8 k8) ∧ f 10 = (Value.int .i64 ((i7 : Int))) ∧ f 11 = (Value.pointer (some ⟨g13, 0, none⟩)) ∧ f 14 = (Value.int .i64 (s12.2))) ?_ ?_
       ·
        refine wp_seq' ?_
        refine wp_region' ?_
        refine wl_op rfl (op_move (v := (Value.int .i64 (s12.2))) rfl e2401 ?_)
        refine wl_op rfl (op_fieldAddr_t (v := (Value.pointer (some ⟨g1, 0, none⟩))) rfl fa24_1 e2395 ((p1.mono ((((le10.trans le1837).trans le1852).trans le1853).trans le1948)).at_ I2636) ?_)
        refine wl_op rfl (op_load (v := (fieldPtr (Value.pointer (some ⟨g1, 0, none⟩)) 1)) (e := a0.Doors) rfl sh22 rfl (((p1.mono ((((le10.trans le1837).trans le1852).trans le1853).trans le1948)).at_ I2636).fld Panel.fld1) (fun u391 hu357 => ?_))
        obtain ⟨z324, m324, k324, e2403⟩ := rv_form hu357
        subst e2403
        refine wl_op rfl (op_len_rv rfl Try.underlying22 rfl hu357 ?_)
        refine wl_op rfl (op_lss (a := s12.2) (b := (a0.Doors.length : Int)) rfl rfl rfl ?_)
        refine wl_op rfl (op_move (v := (Value.bool (decide (s12.2 < (a0.Doors.length : Int))))) rfl rfl ?_)
        rcases ifs h191 with ⟨hc219, h191⟩ | ⟨hc219, h191⟩
        ·
         refine wl_taken (c := decide (s12.2 < (a0.Doors.length : Int))) rfl rfl rfl rfl hc219 (op_fieldAddr (v := (Value.pointer (some ⟨g13, 0, none⟩))) rfl fa85_0 e2400 rfl ?_)
         refine wl_taken (c := decide (s12.2 < (a0.Doors.length : Int))) rfl rfl rfl rfl hc219 (op_load1 (c := (Value.bool (x273))) rfl sh4 (I2636.nth 3 rfl) rfl rfl ?_)
         refine wl_op rfl (op_pick_t (c := decide (s12.2 < (a0.Doors.length : Int))) (a := (Value.bool (x273))) rfl rfl hc219 rfl ?_)
         refine wl_nil ?_
         rcases ifs h191 with ⟨hc220, h191⟩ | ⟨hc220, h191⟩
         ·
          refine wp_cond_t (b := x273) rfl hc220 ?_
          refine wp_skip' ?_
          obtain rfl := Option.some.inj h191
          exact ⟨_, rfl, ((((((((I2636.pull 7).pull 7).pull 7).pull 7).pull 7).pull 7).pull 7).pull 7), e2393, e2394, e2395, e2396, e2397, e2398, e2399, e2400, e2401⟩
         ·
          refine wp_cond_f (b := x273) rfl hc220 ?_
          refine wp_exit' ?_
          obtain rfl := Option.some.inj h191
          have h192 := h188
          obtain rfl := Option.some.inj h192
          obtain rfl := (hout12 _ rfl)
          exact ⟨_, le1948, ((((((((I2636.pull 7).pull 7).pull 7).pull 7).pull 7).pull 7).pull 7).pull 7), e2393, e2394, e2395, e2396, e2397, e2398, e2399, e2400, e2401⟩
        ·
         refine wl_skip (c := decide (s12.2 < (a0.Doors.length : Int))) rfl rfl rfl rfl hc219 rfl ?_
         refine wl_skip (c := decide (s12.2 < (a0.Doors.length : Int))) rfl rfl rfl rfl hc219 rfl ?_
         refine wl_op rfl (op_pick_f (c := decide (s12.2 < (a0.Doors.length : Int))) (b := (Value.bool (false))) rfl rfl hc219 rfl ?_)
         refine wl_nil ?_
         refine wp_cond_f (b := false) rfl rfl ?_
         refine wp_exit' ?_
         obtain rfl := Option.some.inj h191
         have h192 := h188
         obtain rfl := Option.some.inj h192
         obtain rfl := (hout12 _ rfl)
         exact ⟨_, le1948, ((((((((I2636.pull 7).pull 7).pull 7).pull 7).pull 7).pull 7).pull 7).pull 7), e2393, e2394, e2395, e2396, e2397, e2398, e2399, e2400, e2401⟩
       ·
        rintro f w ⟨v210, rfl, I2637, e2404, e2405, e2406, e2407, e2408, e2409, e2410, e2411, e2412⟩
        have h188 := onL_inl h188
        refine wp_seq' ?_
        refine wp_block' ?_
        obtain ⟨x320, hx320, h188⟩ := bnd h188
        obtain ⟨x321, hx321, h188⟩ := bnd h188
        refine wp_draw (sps := [⟨some 96, [], [0], fun vs_ T_ => fr0 vs_ 0 = (Value.pointer (some ⟨g13, 3, none⟩)), [], [], [], fun _ h_ => h_⟩, ⟨some 97, [0], [1], fun vs_ T_ => fr0 vs_ 0 = (Value.slice z293 m293 k293), [0], [], [], fun _ h_ => h_⟩, ⟨some 98, [], [2], fun vs_ T_ => fr0 vs_ 0 = (Value.int .i64 (s12.2)), [], [], [], fun _ h_ => h_⟩, ⟨some 99, [], [3], fun vs_ T_ => RV T_ (fr0 vs_ 0) a0, [], [], [], fun hle_ h_ => h_.mono hle_⟩, ⟨some 100, [], [4], fun vs_ T_ => fr0 vs_ 0 = (Value.int .i64 ((i7 : Int))), [], [], [], fun _ h_ => h_⟩, ⟨some 101, [], [5], fun vs_ T_ => fr0 vs_ 0 = (Value.int .i64 (s12.2)), [], [], [], fun _ h_ => h_⟩, ⟨some 102, [], [6], fun vs_ T_ => fr0 vs_ 0 = (Value.agg #[(Value.bool (x273)), (Value.slice z297 m297 k297), (Value.slice z298 m298 k298), (Value.slice z293 m293 k293), (Value.slice z294 m294 k294)]), [0], [], [], fun _ h_ => h_⟩, ⟨some 103, [3, 4, 5, 6], [7], fun vs_ T_ => fr0 vs_ 0 = (Value.int .i64 (x320)), [1, 2, 3, 4], [], [], fun _ h_ => h_⟩, ⟨some 104, [0, 1, 2, 3, 4, 5, 6, 7], [8], fun vs_ T_ => fr0 vs_ 0 = (elemPtr (Value.slice z293 m293 k293) (s12.2) (Enc.sz Int)), [1], [], [], fun _ h_ => h_⟩, ⟨none, [0, 1, 2, 3, 4, 5, 6, 7, 8], [], fun vs_ T_ => True, [], [1], [5], fun _ h_ => h_⟩]) (tks := [⟨none, none, [], fun vs_ => Cells (ptrBlk (Value.pointer (some ⟨g13, 0, none⟩))) 85 #[(Value.bool (x273)), (Value.slice z297 m297 k297), (Value.slice z298 m298 k298), (Value.slice z293 m293 k293), (Value.slice z294 m294 k294)]⟩, ⟨none, some 9, [], fun vs_ => Row (α := Int) 3 (Value.slice z293 m293 k293) (s12.1)⟩, ⟨none, none, [], fun vs_ => Row (α := Bool) 4 (Value.slice z294 m294 k294) (x275)⟩, ⟨none, none, [], fun vs_ => Row (α := Int) 3 (Value.slice z297 m297 k297) (x306)⟩, ⟨none, none, [], fun vs_ => Row (α := Int) 3 (Value.slice z298 m298 k298) (x307)⟩, ⟨some 9, none, [], fun vs_ => Row (α := Int) 3 (Value.slice z293 m293 k293) (s12.1.set (s12.2).toNat x320)⟩]) (O := Row (α := Ref08_Frame) 85 (Value.slice z281 m281 k281) (s10.1) :: Row (α := Int) 3 (Value.slice z7 m7 k7) (out11.1) :: Row (α := Int) 3 (Value.slice z8 m8 k8) (out11.2) :: Fr) rfl (by kernel_rfl) (((((I2637.pull 5).pull 5).pull 7).pull 7).pull 7) ⟨?_, ?_, ?_, ?_, ?_, ?_, ?_, ?_, ?_, ?_, trivial⟩ ?_
        ·
         intro vs1567 f w2081 S1951 X1487 le1951 hA1487 hK1567 hI1586
         have I2642 : Inv w2081 S1951 (X1487) := hI1586
         refine opg_plain rfl rfl (op_fieldAddr (v := (Value.pointer (some ⟨g13, 0, none⟩))) rfl fa85_3 ((hK1567 11 (keep_of rfl)).trans e2411) rfl ?_)
         refine ⟨_, _, rfl, PH.Le.refl _, ?_, ?_⟩
         ·
          exact rfl
         ·
          exact I2642
        ·
         intro vs1568 f w2082 S1952 X1488 le1952 hA1488 hK1568 hI1587
         have I2643 : Inv w2082 S1952 (Cells (ptrBlk (Value.pointer (some ⟨g13, 0, none⟩))) 85 #[(Value.bool (x273)), (Value.slice z297 m297 k297), (Value.slice z298 m298 k298), (Value.slice z293 m293 k293), (Value.slice z294 m294 k294)] :: X1488) := hI1587
         have q2058 : f 96 = (Value.pointer (some ⟨g13, 3, none⟩)) := vt (hA1488.at_ 0 rfl _ rfl) rfl
         refine opg_plain rfl rfl (op_load1 (c := (Value.slice z293 m293 k293)) rfl sh34 (I2643.nth 0 rfl) q2058 rfl ?_)
         refine ⟨_, _, rfl, PH.Le.refl _, ?_, ?_⟩
         ·
          exact rfl
         ·
          exact I2643
        ·
         intro vs1569 f w2083 S1953 X1489 le1953 hA1489 hK1569 hI1588
         have I2644 : Inv w2083 S1953 (X1489) := hI1588
         refine opg_plain rfl rfl (op_move (v := (Value.int .i64 (s12.2))) rfl ((hK1569 14 (keep_of rfl)).trans e2412) ?_)
         refine ⟨_, _, rfl, PH.Le.refl _, ?_, ?_⟩
         ·
          exact rfl
         ·
          exact I2644
        ·
         intro vs1570 f w2084 S1954 X1490 le1954 hA1490 hK1570 hI1589
         have I2645 : Inv w2084 S1954 (X1490) := hI1589
         refine opg_plain rfl rfl (op_load (v := (Value.pointer (some ⟨g1, 0, none⟩))) (e := a0) rfl sh24 ((hK1570 3 (keep_of rfl)).trans e2406) ((p1.mono (((((le10.trans le1837).trans le1852).trans le1853).trans le1948).trans le1954)).at_ I2645) (fun u393 hu359 => ?_))
         obtain ⟨c132, e2413, r675⟩ := Panel.inv hu359
         subst e2413
         obtain ⟨z325, m325, k325, e2414⟩ := rv_form r675
         subst e2414
         refine ⟨_, _, rfl, PH.Le.refl _, ?_, ?_⟩
         ·
          exact (Panel.rv (s := a0) r675)
         ·
          exact I2645
        ·
         intro vs1571 f w2085 S1955 X1491 le1955 hA1491 hK1571 hI1590
         have I2646 : Inv w2085 S1955 (X1491) := hI1590
         refine opg_plain rfl rfl (op_move (v := (Value.int .i64 ((i7 : Int)))) rfl ((hK1571 10 (keep_of rfl)).trans e2410) ?_)
         refine ⟨_, _, rfl, PH.Le.refl _, ?_, ?_⟩
         ·
          exact rfl
         ·
          exact I2646
        ·
         intro vs1572 f w2086 S1956 X1492 le1956 hA1492 hK1572 hI1591
         have I2647 : Inv w2086 S1956 (X1492) := hI1591
         refine opg_plain rfl rfl (op_move (v := (Value.int .i64 (s12.2))) rfl ((hK1572 14 (keep_of rfl)).trans e2412) ?_)
         refine ⟨_, _, rfl, PH.Le.refl _, ?_, ?_⟩
         ·
          exact rfl
         ·
          exact I2647
        ·
         intro vs1573 f w2087 S1957 X1493 le1957 hA1493 hK1573 hI1592
         have I2648 : Inv w2087 S1957 (Cells (ptrBlk (Value.pointer (some ⟨g13, 0, none⟩))) 85 #[(Value.bool (x273)), (Value.slice z297 m297 k297), (Value.slice z298 m298 k298), (Value.slice z293 m293 k293), (Value.slice z294 m294 k294)] :: X1493) := hI1592
         refine opg_plain rfl rfl (op_loadN (l := [(Value.bool (x273)), (Value.slice z297 m297 k297), (Value.slice z298 m298 k298), (Value.slice z293 m293 k293), (Value.slice z294 m294 k294)]) rfl sh85 (I2648.nth 0 rfl) ((hK1573 11 (keep_of rfl)).trans e2411) rfl rfl ?_)
         refine ⟨_, _, rfl, PH.Le.refl _, ?_, ?_⟩
         ·
          exact rfl
         ·
          exact I2648
        ·
         intro vs1574 f w2088 S1958 X1494 le1958 hA1494 hK1574 hI1593
         have I2649 : Inv w2088 S1958 (Row (α := Int) 3 (Value.slice z293 m293 k293) (s12.1) :: Row (α := Bool) 4 (Value.slice z294 m294 k294) (x275) :: Row (α := Int) 3 (Value.slice z297 m297 k297) (x306) :: Row (α := Int) 3 (Value.slice z298 m298 k298) (x307) :: X1494) := hI1593
         have q2059 : f 99 = vs1574 3 := (hA1494.at_ 0 rfl _ rfl).1 _ rfl
         have r676 : RV S1958 (vs1574 3) a0 := (hA1494.at_ 0 rfl _ rfl).2
         obtain ⟨u394, hu360⟩ : ∃ u, vs1574 3 = u := ⟨_, rfl⟩
         rw [hu360] at q2059 r676
         obtain ⟨c133, e2415, r677⟩ := Panel.inv r676
         subst e2415
         obtain ⟨z326, m326, k326, e2416⟩ := rv_form r677
         subst e2416
         have q2060 : f 100 = (Value.int .i64 ((i7 : Int))) := vt (hA1494.at_ 1 rfl _ rfl) rfl
         have q2061 : f 101 = (Value.int .i64 (s12.2)) := vt (hA1494.at_ 2 rfl _ rfl) rfl
         have q2062 : f 102 = (Value.agg #[(Value.bool (x273)), (Value.slice z297 m297 k297), (Value.slice z298 m298 k298), (Value.slice z293 m293 k293), (Value.slice z294 m294 k294)]) := vt (hA1494.at_ 3 rfl _ rfl) rfl
         obtain ⟨S1959, Fr176, le1959, I2650, r678, r679, r680, r681, bk176⟩ := Inv.lend4 ((((I2649.pull 1).pull 1).pull 3).pull 3)
         refine opg_plain rfl rfl (op_call (vs := [(Value.agg #[(Value.int .i64 (a0.Sensors)), (Value.slice z326 m326 k326), (Value.int .i64 (a0.Stale)), (Value.int .i64 (a0.Limit))]), (Value.int .i64 ((i7 : Int))), (Value.int .i64 (s12.2)), (Value.agg #[(Value.bool (x273)), (Value.slice z297 m297 k297), (Value.slice z298 m298 k298), (Value.slice z293 m293 k293), (Value.slice z294 m294 k294)])]) rfl ca71 rfl (args4 q2059 q2060 q2061 q2062) (F71_ok I2650 (Panel.rv (s := a0) (r677.mono le1959)) (Ref08_Frame.rv (s := (⟨x273, x306, x307, s12.1, x275⟩ : Ref08_Frame)) r678 r679 r680 r681) hx320) (fun v212 w2089 S1960 O156 le1960 I2652 hv156 => ?_))
         obtain ⟨rfl, rfl⟩ := hv156
         have I2651 := bk176 [] trivial I2652 le1960
         refine ⟨_, _, rfl, PH.Le.refl _, ?_, ?_⟩
         ·
          exact rfl
         ·
          exact ((((I2651.pull 1).pull 1).pull 3).pull 3)
        ·
         intro vs1575 f w2090 S1961 X1495 le1961 hA1495 hK1575 hI1594
         have I2653 : Inv w2090 S1961 (Row (α := Int) 3 (Value.slice z293 m293 k293) (s12.1) :: X1495) := hI1594
         have q2063 : f 97 = (Value.slice z293 m293 k293) := vt (hA1495.at_ 1 rfl _ rfl) rfl
         have q2064 : f 98 = (Value.int .i64 (s12.2)) := vt (hA1495.at_ 2 rfl _ rfl) rfl
         refine opg_plain rfl rfl (op_indexAddr_src (v := (Value.slice z293 m293 k293)) (i := s12.2) (e := x321) rfl Try.underlying34 sh3 q2063 (Inv.rowSrc (I2653.nth 0 rfl)) q2064 hx321 ?_)
         refine ⟨_, _, rfl, PH.Le.refl _, ?_, ?_⟩
         ·
          exact rfl
         ·
          exact I2653
        ·
         intro vs1576 f w2091 S1962 X1496 le1962 hA1496 hK1576 hI1595
         have I2654 : Inv w2091 S1962 (Row (α := Int) 3 (Value.slice z293 m293 k293) (s12.1) :: X1496) := hI1595
         have q2065 : f 103 = (Value.int .i64 (x320)) := vt (hA1496.at_ 7 rfl _ rfl) rfl
         have q2066 : f 104 = (elemPtr (Value.slice z293 m293 k293) (s12.2) (Enc.sz Int)) := vt (hA1496.at_ 8 rfl _ rfl) rfl
         refine opg_plain rfl rfl (op_storeRow (u := (Value.int .i64 (x320))) (e' := x320) sh3 I2654 q2066 q2065 hx321 (rv_int' _) (fun w2092 I2655 => ?_))
         refine ⟨undef, _, rfl, PH.Le.refl _, ?_, ?_⟩
         ·
          exact trivial
         ·
          exact I2655
        ·
         intro vs1577 f w2093 S1963 le1963 hF81 hK1577 hI1596
         have e2417 : f 1 = (Value.int .i64 (a1)) := (hK1577 1 (keep_all rfl)).trans e2404
         have e2418 : f 2 = (Value.slice z2 m2 k2) := (hK1577 2 (keep_all rfl)).trans e2405
         have e2419 : f 3 = (Value.pointer (some ⟨g1, 0, none⟩)) := (hK1577 3 (keep_all rfl)).trans e2406
         have e2420 : f 7 = (Value.slice z281 m281 k281) := (hK1577 7 (keep_all rfl)).trans e2407
         have e2421 : f 8 = (Value.slice z7 m7 k7) := (hK1577 8 (keep_all rfl)).trans e2408
         have e2422 : f 9 = (Value.slice z8 m8 k8) := (hK1577 9 (keep_all rfl)).trans e2409
         have e2423 : f 10 = (Value.int .i64 ((i7 : Int))) := (hK1577 10 (keep_all rfl)).trans e2410
         have e2424 : f 11 = (Value.pointer (some ⟨g13, 0, none⟩)) := (hK1577 11 (keep_all rfl)).trans e2411
         have e2425 : f 14 = (Value.int .i64 (s12.2)) := (hK1577 14 (keep_all rfl)).trans e2412
         have I2656 : Inv w2093 S1963 (Cells (ptrBlk (Value.pointer (some ⟨g13, 0, none⟩))) 85 #[(Value.bool (x273)), (Value.slice z297 m297 k297), (Value.slice z298 m298 k298), (Value.slice z293 m293 k293), (Value.slice z294 m294 k294)] :: Row (α := Bool) 4 (Value.slice z294 m294 k294) (x275) :: Row (α := Int) 3 (Value.slice z297 m297 k297) (x306) :: Row (α := Int) 3 (Value.slice z298 m298 k298) (x307) :: Row (α := Int) 3 (Value.slice z293 m293 k293) (s12.1.set (s12.2).toNat x320) :: Row (α := Ref08_Frame) 85 (Value.slice z281 m281 k281) (s10.1) :: Row (α := Int) 3 (Value.slice z7 m7 k7) (out11.1) :: Row (α := Int) 3 (Value.slice z8 m8 k8) (out11.2) :: Fr) := hI1596
         refine wp_region' ?_
         refine wl_op rfl (op_move (v := (Value.int .i64 (s12.2))) rfl e2425 ?_)
         refine wl_op rfl (op_add (a := s12.2) (b := 1) rfl rfl rfl ?_)
         refine wl_op rfl (op_assign (v := (Value.int .i64 (w64 (s12.2 + 1)))) rfl rfl ?_)
         refine wl_nil ?_
         obtain rfl := Option.some.inj h188
         exact ⟨_, rfl, _, (le1948.trans le1963), ((((((((I2656.pull 1).pull 4).pull 4).pull 4).pull 4).pull 7).pull 7).pull 7), e2417, e2418, e2419, e2420, e2421, e2422, e2423, e2424, rfl⟩
      ·
       rintro f w ⟨S1964, le1964, I2657, e2426, e2427, e2428, e2429, e2430, e2431, e2432, e2433, e2434⟩
       refine wp_seq' ?_
       refine wp_region' ?_
       refine wl_op rfl (op_move (v := (Value.slice z281 m281 k281)) rfl e2429 ?_)
       refine wl_op rfl (op_loadN (l := [(Value.bool (x273)), (Value.slice z297 m297 k297), (Value.slice z298 m298 k298), (Value.slice z293 m293 k293), (Value.slice z294 m294 k294)]) rfl sh85 (I2657.nth 3 rfl) e2433 rfl rfl ?_)
       obtain ⟨S1965, le1965, I2658, r682⟩ := Inv.rowFreeze (I2657.pull 4)
       obtain ⟨S1966, le1966, I2659, r683⟩ := Inv.rowFreeze (I2658.pull 4)
       obtain ⟨S1967, le1967, I2660, r684⟩ := Inv.rowFreeze (I2659.pull 4)
       refine wl_op rfl (op_buildSlice (vs := [(Value.agg #[(Value.bool (x273)), (Value.slice z297 m297 k297), (Value.slice z298 m298 k298), (Value.slice z293 m293 k293), (Value.slice z294 m294 k294)])]) (r := ([(⟨x273, x306, x307, out12.1, ⟨(Value.slice z294 m294 k294)⟩⟩ : FrameV)] : List FrameV)) rfl Try.underlying80 el85v (parts1 rfl) rfl (by decide) (by decide) ⟨(FrameV.rv (s := (⟨x273, x306, x307, out12.1, ⟨(Value.slice z294 m294 k294)⟩⟩ : FrameV)) (r682.mono (le1966.trans le1967)) (r683.mono le1967) r684 rfl), trivial⟩ I2660 (fun u395 w2094 I2661 => ?_))
       obtain ⟨z327, m327, k327, e2435⟩ := row_form I2661
       subst e2435
       obtain ⟨x322, hx322, h154⟩ := bnd h154
       obtain ⟨lV4, I2662, hR4⟩ := Inv.rowBack (β := FrameV) (R := FrR S1967) rfl frame_back (I2661.pull 1)
       have hV4 : push? lV4 [(⟨x273, x306, x307, out12.1, ⟨(Value.slice z294 m294 k294)⟩⟩ : FrameV)] = some (lV4 ++ [(⟨x273, x306, x307, out12.1, ⟨(Value.slice z294 m294 k294)⟩⟩ : FrameV)]) := push?_rel hx322 hR4
       refine wl_op rfl (op_append (α := FrameV) (v := (Value.slice z281 m281 k281)) (u := (Value.slice z327 m327 k327)) rfl rfl Try.underlying80 el85v (by decide) (by decide) rfl rfl I2662 (Inv.rowSrc (I2662.nth 1 rfl)) hV4 (fun u396 w2095 I2663 => ?_))
       obtain ⟨z328, m328, k328, e2436⟩ := row_form I2663
       subst e2436
       refine wl_op rfl (op_assign (v := (Value.slice z328 m328 k328)) rfl rfl ?_)
       refine wl_nil ?_
       refine wp_seq' ?_
       refine wp_region' ?_
       refine wl_op rfl (op_assign (v := (Value.int .i64 (0))) rfl rfl ?_)
       refine wl_nil ?_
       have hk4 : a0.Doors.length ≤ 9223372036854775807 := (rv_len r604)
       obtain ⟨out13, hrun13, h154⟩ := bnd h154
       refine wp_cutN (fun f w => ∃ (S_ : PH), S1967.Le S_ ∧ Inv w S_ (Row (α := FrameV) 85 (Value.slice z328 m328 k328) (lV4 ++ [(⟨x273, x306, x307, out12.1, ⟨(Value.slice z294 m294 k294)⟩⟩ : FrameV)]) :: Row (α := Bool) 4 (Value.slice z294 m294 k294) (out13) :: Row (α := Int) 3 (Value.slice z7 m7 k7) (out11.1) :: Row (α := Int) 3 (Value.slice z8 m8 k8) (out11.2) :: Cells (ptrBlk (Value.pointer (some ⟨g13, 0, none⟩))) 85 #[(Value.bool (x273)), (Value.slice z297 m297 k297), (Value.slice z298 m298 k298), (Value.slice z293 m293 k293), (Value.slice z294 m294 k294)] :: Fr) ∧ f 1 = (Value.int .i64 (a1)) ∧ f 2 = (Value.slice z2 m2 k2) ∧ f 3 = (Value.pointer (some ⟨g1, 0, none⟩)) ∧ f 7 = (Value.slice z328 m328 k328) ∧ f 8 = (Value.slice z7 m7 k7) ∧ f 9 = (Value.slice z8 m8 k8) ∧ f 10 = (Value.int .i64 ((i7 : Int))) ∧ f 11 = (Value.pointer (some ⟨g13, 0, none⟩))) ?_ ?_
       ·
        refine wp_block' ?_
        refine wp_forS (I := fun (i9 : Nat) (s13 : (List Bool)) (f : Frm) (w : World) => ∃ (S_ : PH), S1967.Le S_ ∧ Inv w S_ (Row (α := FrameV) 85 (Value.slice z328 m328 k328) (lV4 ++ [(⟨x273, x306, x307, out12.1, ⟨(Value.slice z294 m294 k294)⟩⟩ : FrameV)]) :: Row (α := Bool) 4 (Value.slice z294 m294 k294) (s13) :: Row (α := Int) 3 (Value.slice z7 m7 k7) (out11.1) :: Row (α := Int) 3 (Value.slice z8 m8 k8) (out11.2) :: Cells (ptrBlk (Value.pointer (some ⟨g13, 0, none⟩))) 85 #[(Value.bool (x273)), (Value.slice z297 m297 k297), (Value.slice z298 m298 k298), (Value.slice z293 m293 k293), (Value.slice z294 m294 k294)] :: Fr) ∧ f 1 = (Value.int .i64 (a1)) ∧ f 2 = (Value.slice z2 m2 k2) ∧ f 3 = (Value.pointer (some ⟨g1, 0, none⟩)) ∧ f 7 = (Value.slice z328 m328 k328) ∧ f 8 = (Value.slice z7 m7 k7) ∧ f 9 = (Value.slice z8 m8 k8) ∧ f 10 = (Value.int .i64 ((i7 : Int))) ∧ f 11 = (Value.pointer (some ⟨g13, 0, none⟩)) ∧ f 15 = (Value.int .i64 (i9 : Int))) hrun13 ⟨_, (PH.Le.refl _), ((((((I2663.pull 1).drop.pull 3).pull 3).pull 3).pull 4).pull 4), e2426, e2427, e2428, rfl, e2430, e2431, e2432, e2433, rfl⟩ ?_ ?_
        ·
         rintro i9 s13 f w o13 hlt9 hI1897 h202
         obtain ⟨S2324, le2324, I3099, e2652, e2653, e2654, e2655, e2656, e2657, e2658, e2659, e2660⟩ := hI1897
         refine wp_seq' ?_
         refine wp_seq' ?_
         refine wp_region' ?_
         refine wl_op rfl (op_move (v := (Value.int .i64 ((i9 : Int)))) rfl e2660 ?_)
         refine wl_op rfl (op_fieldAddr_t (v := (Value.pointer (some ⟨g1, 0, none⟩))) rfl fa24_1 e2654 ((p1.mono ((((((((le10.trans le1837).trans le1852).trans le1853).trans le1964).trans le1965).trans le1966).trans le1967).trans le2324)).at_ I3099) ?_)
         refine wl_op rfl (op_load (v := (fieldPtr (Value.pointer (some ⟨g1, 0, none⟩)) 1)) (e := a0.Doors) rfl sh22 rfl (((p1.mono ((((((((le10.trans le1837).trans le1852).trans le1853).trans le1964).trans le1965).trans le1966).trans le1967).trans le2324)).at_ I3099).fld Panel.fld1) (fun u445 hu409 => ?_))
         obtain ⟨z362, m362, k362, e2662⟩ := rv_form hu409
         subst e2662
         refine wl_op rfl (op_len_rv rfl Try.underlying22 rfl hu409 ?_)
         refine wl_op rfl (op_lss (a := (i9 : Int)) (b := (a0.Doors.length : Int)) rfl rfl rfl ?_)
         refine wl_nil ?_
         refine wp_cond_t (b := decide ((i9 : Int) < (a0.Doors.length : Int))) rfl (len_t hlt9) ?_
         refine wp_skip' ?_
         refine wp_seq' ?_
         refine wp_block' ?_
         obtain ⟨v240, h205, h202⟩ := bnd h202
         refine wp_cut (fun f w => Inv w S2324 (Row (α := FrameV) 85 (Value.slice z328 m328 k328) (lV4 ++ [(⟨x273, x306, x307, out12.1, ⟨(Value.slice z294 m294 k294)⟩⟩ : FrameV)]) :: Row (α := Bool) 4 (Value.slice z294 m294 k294) (s13) :: Row (α := Int) 3 (Value.slice z7 m7 k7) (out11.1) :: Row (α := Int) 3 (Value.slice z8 m8 k8) (out11.2) :: Cells (ptrBlk (Value.pointer (some ⟨g13, 0, none⟩))) 85 #[(Value.bool (x273)), (Value.slice z297 m297 k297), (Value.slice z298 m298 k298), (Value.slice z293 m293 k293), (Value.slice z294 m294 k294)] :: Fr) ∧ f 1 = (Value.int .i64 (a1)) ∧ f 2 = (Value.slice z2 m2 k2) ∧ f 3 = (Value.pointer (some ⟨g1, 0, none⟩)) ∧ f 7 = (Value.slice z328 m328 k328) ∧ f 8 = (Value.slice z7 m7 k7) ∧ f 9 = (Value.slice z8 m8 k8) ∧ f 10 = (Value.int .i64 ((i7 : Int))) ∧ f 11 = (Value.pointer (some ⟨g13, 0, none⟩)) ∧ f 15 = (Value.int .i64 ((i9 : Int))) ∧ f 16 = (Value.bool (v240))) ?_ ?_
         ·
          refine wp_region' ?_
          obtain ⟨S2326, Fr208, le2326, I3103, r774, r775, bk208⟩ := Inv.lend2 ((I3099.pull 1).pull 1)
          refine wl_op rfl (op_move (v := (Value.int .i64 ((i7 : Int)))) rfl e2658 ?_)
          refine wl_op rfl (op_gtr (a := (i7 : Int)) (b := 0) rfl rfl rfl ?_)
          refine wl_op rfl (op_move (v := (Value.bool (decide (0 < (i7 : Int))))) rfl rfl ?_)
          rcases ifs h205 with ⟨hc237, h205⟩ | ⟨hc237, h205⟩
          ·
           refine wl_taken (c := decide (0 < (i7 : Int))) rfl rfl rfl rfl hc237 (op_move (v := (Value.slice z328 m328 k328)) rfl e2655 ?_)
           refine wl_taken (c := decide (0 < (i7 : Int))) rfl rfl rfl rfl hc237 (op_move (v := (Value.int .i64 ((i7 : Int)))) rfl e2658 ?_)
           refine wl_taken (c := decide (0 < (i7 : Int))) rfl rfl rfl rfl hc237 (op_sub (a := (i7 : Int)) (b := 1) rfl rfl rfl ?_)
           obtain ⟨x355, hx355, h205⟩ := bnd h205
           refine wl_taken (c := decide (0 < (i7 : Int))) rfl rfl rfl rfl hc237 (op_indexAddr_rv (v := (Value.slice z328 m328 k328)) (i := w64 ((i7 : Int) - 1)) (e := x355) rfl Try.underlying80 sh85 rfl (frame_rv (frame_rel (frame_relm (le2324.trans le2326) hR4) ⟨rfl, rfl, rfl, rfl, r775⟩) r774) rfl hx355 ?_)
           refine wl_taken (c := decide (0 < (i7 : Int))) rfl rfl rfl rfl hc237 (op_fieldAddr_t (v := (elemPtr (Value.slice z328 m328 k328) (w64 ((i7 : Int) - 1)) (Enc.sz Ref08_Frame))) rfl fa85_4 rfl ((frame_rv (frame_rel (frame_relm (le2324.trans le2326) hR4) ⟨rfl, rfl, rfl, rfl, r775⟩) r774).elem I3103.in_ hx355) ?_)
           refine wl_taken (c := decide (0 < (i7 : Int))) rfl rfl rfl rfl hc237 (op_load (v := (fieldPtr (elemPtr (Value.slice z328 m328 k328) (w64 ((i7 : Int) - 1)) (Enc.sz Ref08_Frame)) 4)) (e := x355.Shut) rfl sh83 rfl (((frame_rv (frame_rel (frame_relm (le2324.trans le2326) hR4) ⟨rfl, rfl, rfl, rfl, r775⟩) r774).elem I3103.in_ hx355).fld Ref08_Frame.fld4) (fun u447 hu411 => ?_))
           obtain ⟨z364, m364, k364, e2664⟩ := rv_form hu411
           subst e2664
           refine wl_taken (c := decide (0 < (i7 : Int))) rfl rfl rfl rfl hc237 (op_move (v := (Value.int .i64 ((i9 : Int)))) rfl e2660 ?_)
           obtain ⟨x356, hx356, h205⟩ := bnd h205
           refine wl_taken (c := decide (0 < (i7 : Int))) rfl rfl rfl rfl hc237 (op_indexAddr_rv (v := (Value.slice z364 m364 k364)) (i := (i9 : Int)) (e := x356) rfl Try.underlying83 sh4 rfl hu411 rfl hx356 ?_)
           refine wl_taken (c := decide (0 < (i7 : Int))) rfl rfl rfl rfl hc237 (op_load_bool (v := (elemPtr (Value.slice z364 m364 k364) ((i9 : Int)) (Enc.sz Bool))) (e := x356) rfl sh4 rfl (hu411.elem I3103.in_ hx356) ?_)
           refine wl_op rfl (op_pick_t (c := decide (0 < (i7 : Int))) (a := (Value.bool (x356))) rfl rfl hc237 rfl ?_)
           refine wl_op rfl (op_assign (v := (Value.bool (x356))) rfl rfl ?_)
           refine wl_nil ?_
           have I3104 := bk208 [] trivial I3103 (PH.Le.refl _)
           obtain rfl := Option.some.inj h205
           exact ⟨(((((I3104.pull 4).pull 4).pull 4).pull 4).pull 4), e2652, e2653, e2654, e2655, e2656, e2657, e2658, e2659, e2660, rfl⟩
          ·
           refine wl_skip (c := decide (0 < (i7 : Int))) rfl rfl rfl rfl hc237 rfl ?_
           refine wl_skip (c := decide (0 < (i7 : Int))) rfl rfl rfl rfl hc237 rfl ?_
           refine wl_skip (c := decide (0 < (i7 : Int))) rfl rfl rfl rfl hc237 rfl ?_
           refine wl_skip (c := decide (0 < (i7 : Int))) rfl rfl rfl rfl hc237 rfl ?_
           refine wl_skip (c := decide (0 < (i7 : Int))) rfl rfl rfl rfl hc237 rfl ?_
           refine wl_skip (c := decide (0 < (i7 : Int))) rfl rfl rfl rfl hc237 rfl ?_
           refine wl_skip (c := decide (0 < (i7 : Int))) rfl rfl rfl rfl hc237 rfl ?_
           refine wl_skip (c := decide (0 < (i7 : Int))) rfl rfl rfl rfl hc237 rfl ?_
           refine wl_skip (c := decide (0 < (i7 : Int))) rfl rfl rfl rfl hc237 rfl ?_
           refine wl_op rfl (op_pick_f (c := decide (0 < (i7 : Int))) (b := (Value.bool (false))) rfl rfl hc237 rfl ?_)
           refine wl_op rfl (op_assign (v := (Value.bool (false))) rfl rfl ?_)
           refine wl_nil ?_
           have I3105 := bk208 [] trivial I3103 (PH.Le.refl _)
           obtain rfl := Option.some.inj h205
           exact ⟨(((((I3105.pull 4).pull 4).pull 4).pull 4).pull 4), e2652, e2653, e2654, e2655, e2656, e2657, e2658, e2659, e2660, rfl⟩
         ·
          rintro f w ⟨I3106, e2665, e2666, e2667, e2668, e2669, e2670, e2671, e2672, e2673, e2674⟩
          rcases ifs h202 with ⟨hc238, h202⟩ | ⟨hc238, h202⟩
          ·
           obtain ⟨x357, hx357, h202⟩ := bnd h202
           rcases ifs h202 with ⟨hc239, h202⟩ | ⟨hc239, h202⟩
           ·
            obtain ⟨x358, hx358, h202⟩ := bnd h202
            rcases ifs h202 with ⟨hc240, h202⟩ | ⟨hc240, h202⟩
            ·
             obtain ⟨x359, hx359, h202⟩ := bnd h202
             refine wp_draw (sps := [⟨some 129, [], [0], fun vs_ T_ => fr0 vs_ 0 = (Value.pointer (some ⟨g13, 4, none⟩)), [], [], [], fun _ h_ => h_⟩, ⟨some 130, [0], [1], fun vs_ T_ => fr0 vs_ 0 = (Value.slice z294 m294 k294), [0], [], [], fun _ h_ => h_⟩, ⟨some 131, [], [2], fun vs_ T_ => fr0 vs_ 0 = (Value.int .i64 ((i9 : Int))), [], [], [], fun _ h_ => h_⟩, ⟨some 132, [], [3], fun vs_ T_ => fr0 vs_ 0 = (Value.pointer (some ⟨g13, 0, none⟩)), [], [], [], fun _ h_ => h_⟩, ⟨some 133, [3], [4], fun vs_ T_ => fr0 vs_ 0 = (Value.bool (x273)), [0], [], [], fun _ h_ => h_⟩, ⟨some 134, [3, 4], [5], fun vs_ T_ => fr0 vs_ 0 = (Value.bool (x273)), [], [], [], fun _ h_ => h_⟩, ⟨some 135, [3, 4, 5], [6], fun vs_ T_ => RV T_ (fr0 vs_ 0) a0, [], [], [], fun hle_ h_ => h_.mono hle_⟩, ⟨some 136, [3, 4, 5], [7], fun vs_ T_ => fr0 vs_ 0 = (Value.slice z2 m2 k2), [], [], [], fun _ h_ => h_⟩, ⟨some 137, [3, 4, 5], [8], fun vs_ T_ => fr0 vs_ 0 = (Value.int .i64 ((i9 : Int))), [], [], [], fun _ h_ => h_⟩, ⟨some 138, [3, 4, 5], [9], fun vs_ T_ => fr0 vs_ 0 = (Value.slice z328 m328 k328), [], [], [], fun _ h_ => h_⟩, ⟨some 139, [3, 4, 5, 6, 7, 8, 9], [10], fun vs_ T_ => fr0 vs_ 0 = (Value.bool (x357)), [1, 2], [], [], fun _ h_ => h_⟩, ⟨some 140, [3, 4, 5, 6, 7, 8, 9, 10], [11], fun vs_ T_ => fr0 vs_ 0 = (Value.bool (x357)), [], [], [], fun _ h_ => h_⟩, ⟨some 141, [3, 4, 5, 6, 7, 8, 9, 10, 11], [12], fun vs_ T_ => fr0 vs_ 0 = (Value.bool (x357)), [], [], [], fun _ h_ => h_⟩, ⟨some 142, [3, 4, 5, 6, 7, 8, 9, 10, 11, 12], [13], fun vs_ T_ => fr0 vs_ 0 = (Value.slice z2 m2 k2), [], [], [], fun _ h_ => h_⟩, ⟨some 143, [3, 4, 5, 6, 7, 8, 9, 10, 11, 12], [14], fun vs_ T_ => fr0 vs_ 0 = (Value.int .i64 ((i7 : Int))), [], [], [], fun _ h_ => h_⟩, ⟨some 144, [3, 4, 5, 6, 7, 8, 9, 10, 11, 12], [15], fun vs_ T_ => fr0 vs_ 0 = (Value.int .i64 ((i9 : Int))), [], [], [], fun _ h_ => h_⟩, ⟨some 145, [3, 4, 5, 6, 7, 8, 9, 10, 11, 12, 13, 14, 15], [16], fun vs_ T_ => fr0 vs_ 0 = (Value.bool (x358)), [], [], [], fun _ h_ => h_⟩, ⟨some 146, [3, 4, 5, 6, 7, 8, 9, 10, 11, 12, 13, 14, 15, 16], [17], fun vs_ T_ => fr0 vs_ 0 = (Value.bool (!x358)), [], [], [], fun _ h_ => h_⟩, ⟨some 147, [3, 4, 5, 6, 7, 8, 9, 10, 11, 12, 13, 14, 15, 16, 17], [18], fun vs_ T_ => fr0 vs_ 0 = (Value.bool (!x358)), [], [], [], fun _ h_ => h_⟩, ⟨some 148, [3, 4, 5, 6, 7, 8, 9, 10, 11, 12, 13, 14, 15, 16, 17, 18], [19], fun vs_ T_ => fr0 vs_ 0 = undef, [], [], [], fun _ h_ => h_⟩, ⟨some 149, [3, 4, 5, 6, 7, 8, 9, 10, 11, 12, 13, 14, 15, 16, 17, 18, 19], [20], fun vs_ T_ => fr0 vs_ 0 = (Value.bool (true)), [], [], [], fun _ h_ => h_⟩, ⟨some 150, [3, 4, 5, 6, 7, 8, 9, 10, 11, 12, 13, 14, 15, 16, 17, 18, 19, 20], [21], fun vs_ T_ => fr0 vs_ 0 = (Value.bool (true)), [], [], [], fun _ h_ => h_⟩, ⟨some 151, [0, 1, 2, 3, 4, 5, 6, 7, 8, 9, 10, 11, 12, 13, 14, 15, 16, 17, 18, 19, 20, 21], [22], fun vs_ T_ => fr0 vs_ 0 = (elemPtr (Value.slice z294 m294 k294) ((i9 : Int)) (Enc.sz Bool)), [2], [], [], fun _ h_ => h_⟩, ⟨none, [0, 1, 2, 3, 4, 5, 6, 7, 8, 9, 10, 11, 12, 13, 14, 15, 16, 17, 18, 19, 20, 21, 22], [], fun vs_ T_ => True, [], [2], [3], fun _ h_ => h_⟩]) (tks := [⟨none, none, [], fun vs_ => Cells (ptrBlk (Value.pointer (some ⟨g13, 0, none⟩))) 85 #[(Value.bool (x273)), (Value.slice z297 m297 k297), (Value.slice z298 m298 k298), (Value.slice z293 m293 k293), (Value.slice z294 m294 k294)]⟩, ⟨none, none, [], fun vs_ => Row (α := FrameV) 85 (Value.slice z328 m328 k328) (lV4 ++ [(⟨x273, x306, x307, out12.1, ⟨(Value.slice z294 m294 k294)⟩⟩ : FrameV)])⟩, ⟨none, some 23, [], fun vs_ => Row (α := Bool) 4 (Value.slice z294 m294 k294) (s13)⟩, ⟨some 23, none, [], fun vs_ => Row (α := Bool) 4 (Value.slice z294 m294 k294) (s13.set ((i9 : Int)).toNat true)⟩]) (O := Row (α := Int) 3 (Value.slice z7 m7 k7) (out11.1) :: Row (α := Int) 3 (Value.slice z8 m8 k8) (out11.2) :: Fr) rfl (by kernel_rfl) (((I3106.pull 1).pull 1).pull 4) ⟨?_, ?_, ?_, ?_, ?_, ?_, ?_, ?_, ?_, ?_, ?_, ?_, ?_, ?_, ?_, ?_, ?_, ?_, ?_, ?_, ?_, ?_, ?_, ?_, trivial⟩ ?_
             ·
              intro vs1878 f w2465 S2333 X1785 le2333 hA1785 hK1878 hI1898
              have I3119 : Inv w2465 S2333 (X1785) := hI1898
              refine opg_plain rfl rfl (op_fieldAddr (v := (Value.pointer (some ⟨g13, 0, none⟩))) rfl fa85_4 ((hK1878 11 (keep_of rfl)).trans e2672) rfl ?_)
              refine ⟨_, _, rfl, PH.Le.refl _, ?_, ?_⟩
              ·
               exact rfl
              ·
               exact I3119
             ·
              intro vs1879 f w2466 S2334 X1786 le2334 hA1786 hK1879 hI1899
              have I3120 : Inv w2466 S2334 (Cells (ptrBlk (Value.pointer (some ⟨g13, 0, none⟩))) 85 #[(Value.bool (x273)), (Value.slice z297 m297 k297), (Value.slice z298 m298 k298), (Value.slice z293 m293 k293), (Value.slice z294 m294 k294)] :: X1786) := hI1899
              have q2499 : f 129 = (Value.pointer (some ⟨g13, 4, none⟩)) := vt (hA1786.at_ 0 rfl _ rfl) rfl
              refine opg_plain rfl rfl (op_load1 (c := (Value.slice z294 m294 k294)) rfl sh83 (I3120.nth 0 rfl) q2499 rfl ?_)
              refine ⟨_, _, rfl, PH.Le.refl _, ?_, ?_⟩
              ·
               exact rfl
              ·
               exact I3120
             ·
              intro vs1880 f w2467 S2335 X1787 le2335 hA1787 hK1880 hI1900
              have I3121 : Inv w2467 S2335 (X1787) := hI1900
              refine opg_plain rfl rfl (op_move (v := (Value.int .i64 ((i9 : Int)))) rfl ((hK1880 15 (keep_of rfl)).trans e2673) ?_)
              refine ⟨_, _, rfl, PH.Le.refl _, ?_, ?_⟩
              ·
               exact rfl
              ·
               exact I3121
             ·
              intro vs1881 f w2468 S2336 X1788 le2336 hA1788 hK1881 hI1901
              have I3122 : Inv w2468 S2336 (X1788) := hI1901
              refine opg_plain rfl rfl (op_fieldAddr (v := (Value.pointer (some ⟨g13, 0, none⟩))) rfl fa85_0 ((hK1881 11 (keep_of rfl)).trans e2672) rfl ?_)
              refine ⟨_, _, rfl, PH.Le.refl _, ?_, ?_⟩
              ·
               exact rfl
              ·
               exact I3122
             ·
              intro vs1882 f w2469 S2337 X1789 le2337 hA1789 hK1882 hI1902
              have I3123 : Inv w2469 S2337 (Cells (ptrBlk (Value.pointer (some ⟨g13, 0, none⟩))) 85 #[(Value.bool (x273)), (Value.slice z297 m297 k297), (Value.slice z298 m298 k298), (Value.slice z293 m293 k293), (Value.slice z294 m294 k294)] :: X1789) := hI1902
              have q2500 : f 132 = (Value.pointer (some ⟨g13, 0, none⟩)) := vt (hA1789.at_ 0 rfl _ rfl) rfl
              refine opg_plain rfl rfl (op_load1 (c := (Value.bool (x273))) rfl sh4 (I3123.nth 0 rfl) q2500 rfl ?_)
              refine ⟨_, _, rfl, PH.Le.refl _, ?_, ?_⟩
              ·
               exact rfl
              ·
               exact I3123
             ·
              intro vs1883 f w2470 S2338 X1790 le2338 hA1790 hK1883 hI1903
              have I3124 : Inv w2470 S2338 (X1790) := hI1903
              have q2501 : f 133 = (Value.bool (x273)) := vt (hA1790.at_ 1 rfl _ rfl) rfl
              refine opg_plain rfl rfl (op_move (v := (Value.bool (x273))) rfl q2501 ?_)
              refine ⟨_, _, rfl, PH.Le.refl _, ?_, ?_⟩
              ·
               exact rfl
              ·
               exact I3124
             ·
              intro vs1884 f w2471 S2339 X1791 le2339 hA1791 hK1884 hI1904
              have I3125 : Inv w2471 S2339 (X1791) := hI1904
              have q2502 : f 134 = (Value.bool (x273)) := vt (hA1791.at_ 2 rfl _ rfl) rfl
              refine opg_taken (c := x273) rfl rfl rfl rfl q2502 hc238 (op_load (v := (Value.pointer (some ⟨g1, 0, none⟩))) (e := a0) rfl sh24 ((hK1884 3 (keep_of rfl)).trans e2667) ((p1.mono (((((((((le10.trans le1837).trans le1852).trans le1853).trans le1964).trans le1965).trans le1966).trans le1967).trans le2324).trans le2339)).at_ I3125) (fun u451 hu415 => ?_))
              obtain ⟨c152, e2675, r782⟩ := Panel.inv hu415
              subst e2675
              obtain ⟨z365, m365, k365, e2676⟩ := rv_form r782
              subst e2676
              refine ⟨_, _, rfl, PH.Le.refl _, ?_, ?_⟩
              ·
               exact (Panel.rv (s := a0) r782)
              ·
               exact I3125
             ·
              intro vs1885 f w2472 S2340 X1792 le2340 hA1792 hK1885 hI1905
              have I3126 : Inv w2472 S2340 (X1792) := hI1905
              have q2503 : f 134 = (Value.bool (x273)) := vt (hA1792.at_ 2 rfl _ rfl) rfl
              refine opg_taken (c := x273) rfl rfl rfl rfl q2503 hc238 (op_move (v := (Value.slice z2 m2 k2)) rfl ((hK1885 2 (keep_of rfl)).trans e2666) ?_)
              refine ⟨_, _, rfl, PH.Le.refl _, ?_, ?_⟩
              ·
               exact rfl
              ·
               exact I3126
             ·
              intro vs1886 f w2473 S2341 X1793 le2341 hA1793 hK1886 hI1906
              have I3127 : Inv w2473 S2341 (X1793) := hI1906
              have q2504 : f 134 = (Value.bool (x273)) := vt (hA1793.at_ 2 rfl _ rfl) rfl
              refine opg_taken (c := x273) rfl rfl rfl rfl q2504 hc238 (op_move (v := (Value.int .i64 ((i9 : Int)))) rfl ((hK1886 15 (keep_of rfl)).trans e2673) ?_)
              refine ⟨_, _, rfl, PH.Le.refl _, ?_, ?_⟩
              ·
               exact rfl
              ·
               exact I3127
             ·
              intro vs1887 f w2474 S2342 X1794 le2342 hA1794 hK1887 hI1907
              have I3128 : Inv w2474 S2342 (X1794) := hI1907
              have q2505 : f 134 = (Value.bool (x273)) := vt (hA1794.at_ 2 rfl _ rfl) rfl
              refine opg_taken (c := x273) rfl rfl rfl rfl q2505 hc238 (op_move (v := (Value.slice z328 m328 k328)) rfl ((hK1887 7 (keep_of rfl)).trans e2668) ?_)
              refine ⟨_, _, rfl, PH.Le.refl _, ?_, ?_⟩
              ·
               exact rfl
              ·
               exact I3128
             ·
              intro vs1888 f w2475 S2343 X1795 le2343 hA1795 hK1888 hI1908
              have I3129 : Inv w2475 S2343 (Row (α := FrameV) 85 (Value.slice z328 m328 k328) (lV4 ++ [(⟨x273, x306, x307, out12.1, ⟨(Value.slice z294 m294 k294)⟩⟩ : FrameV)]) :: Row (α := Bool) 4 (Value.slice z294 m294 k294) (s13) :: X1795) := hI1908
              have q2506 : f 134 = (Value.bool (x273)) := vt (hA1795.at_ 2 rfl _ rfl) rfl
              have q2507 : f 135 = vs1888 6 := (hA1795.at_ 3 rfl _ rfl).1 _ rfl
              have r783 : RV S2343 (vs1888 6) a0 := (hA1795.at_ 3 rfl _ rfl).2
              obtain ⟨u452, hu416⟩ : ∃ u, vs1888 6 = u := ⟨_, rfl⟩
              rw [hu416] at q2507 r783
              obtain ⟨c153, e2677, r784⟩ := Panel.inv r783
              subst e2677
              obtain ⟨z366, m366, k366, e2678⟩ := rv_form r784
              subst e2678
              have q2508 : f 136 = (Value.slice z2 m2 k2) := vt (hA1795.at_ 4 rfl _ rfl) rfl
              have q2509 : f 137 = (Value.int .i64 ((i9 : Int))) := vt (hA1795.at_ 5 rfl _ rfl) rfl
              have q2510 : f 138 = (Value.slice z328 m328 k328) := vt (hA1795.at_ 6 rfl _ rfl) rfl
              obtain ⟨S2344, Fr212, le2344, I3130, r785, r786, bk212⟩ := Inv.lend2 ((I3129.pull 1).pull 1)
              refine opg_taken (c := x273) rfl rfl rfl rfl q2506 hc238 (op_call (vs := [(Value.agg #[(Value.int .i64 (a0.Sensors)), (Value.slice z366 m366 k366), (Value.int .i64 (a0.Stale)), (Value.int .i64 (a0.Limit))]), (Value.slice z2 m2 k2), (Value.int .i64 ((i9 : Int))), (Value.slice z328 m328 k328)]) rfl ca72 rfl (args4 q2507 q2508 q2509 q2510) (F72_ok I3130 (Panel.rv (s := a0) (r784.mono le2344)) (h2_.mono (((((((((((le1.trans le10).trans le1837).trans le1852).trans le1853).trans le1964).trans le1965).trans le1966).trans le1967).trans le2324).trans le2343).trans le2344)) (frame_rv (frame_rel (frame_relm ((le2324.trans le2343).trans le2344) hR4) ⟨rfl, rfl, rfl, rfl, r786⟩) r785) hx357) (fun v244 w2476 S2345 O184 le2345 I3132 hv184 => ?_))
              obtain ⟨rfl, rfl⟩ := hv184
              have I3131 := bk212 [] trivial I3132 le2345
              refine ⟨_, _, rfl, PH.Le.refl _, ?_, ?_⟩
              ·
               exact rfl
              ·
               exact ((I3131.pull 1).pull 1)
             ·
              intro vs1889 f w2477 S2346 X1796 le2346 hA1796 hK1889 hI1909
              have I3133 : Inv w2477 S2346 (X1796) := hI1909
              have q2511 : f 134 = (Value.bool (x273)) := vt (hA1796.at_ 2 rfl _ rfl) rfl
              have q2512 : f 139 = (Value.bool (x357)) := vt (hA1796.at_ 7 rfl _ rfl) rfl
              refine opg_plain rfl rfl (op_pick_t (c := x273) (a := (Value.bool (x357))) rfl q2511 hc238 q2512 ?_)
              refine ⟨_, _, rfl, PH.Le.refl _, ?_, ?_⟩
              ·
               exact rfl
              ·
               exact I3133
             ·
              intro vs1890 f w2478 S2347 X1797 le2347 hA1797 hK1890 hI1910
              have I3134 : Inv w2478 S2347 (X1797) := hI1910
              have q2513 : f 140 = (Value.bool (x357)) := vt (hA1797.at_ 8 rfl _ rfl) rfl
              refine opg_plain rfl rfl (op_move (v := (Value.bool (x357))) rfl q2513 ?_)
              refine ⟨_, _, rfl, PH.Le.refl _, ?_, ?_⟩
              ·
               exact rfl
              ·
               exact I3134
             ·
              intro vs1891 f w2479 S2348 X1798 le2348 hA1798 hK1891 hI1911
              have I3135 : Inv w2479 S2348 (X1798) := hI1911
              have q2514 : f 141 = (Value.bool (x357)) := vt (hA1798.at_ 9 rfl _ rfl) rfl
              refine opg_taken (c := x357) rfl rfl rfl rfl q2514 hc239 (op_move (v := (Value.slice z2 m2 k2)) rfl ((hK1891 2 (keep_of rfl)).trans e2666) ?_)
              refine ⟨_, _, rfl, PH.Le.refl _, ?_, ?_⟩
              ·
               exact rfl
              ·
               exact I3135
             ·
              intro vs1892 f w2480 S2349 X1799 le2349 hA1799 hK1892 hI1912
              have I3136 : Inv w2480 S2349 (X1799) := hI1912
              have q2515 : f 141 = (Value.bool (x357)) := vt (hA1799.at_ 9 rfl _ rfl) rfl
              refine opg_taken (c := x357) rfl rfl rfl rfl q2515 hc239 (op_move (v := (Value.int .i64 ((i7 : Int)))) rfl ((hK1892 10 (keep_of rfl)).trans e2671) ?_)
              refine ⟨_, _, rfl, PH.Le.refl _, ?_, ?_⟩
              ·
               exact rfl
              ·
               exact I3136
             ·
              intro vs1893 f w2481 S2350 X1800 le2350 hA1800 hK1893 hI1913
              have I3137 : Inv w2481 S2350 (X1800) := hI1913
              have q2516 : f 141 = (Value.bool (x357)) := vt (hA1800.at_ 9 rfl _ rfl) rfl
              refine opg_taken (c := x357) rfl rfl rfl rfl q2516 hc239 (op_move (v := (Value.int .i64 ((i9 : Int)))) rfl ((hK1893 15 (keep_of rfl)).trans e2673) ?_)
              refine ⟨_, _, rfl, PH.Le.refl _, ?_, ?_⟩
              ·
               exact rfl
              ·
               exact I3137
             ·
              intro vs1894 f w2482 S2351 X1801 le2351 hA1801 hK1894 hI1914
              have I3138 : Inv w2482 S2351 (X1801) := hI1914
              have q2517 : f 141 = (Value.bool (x357)) := vt (hA1801.at_ 9 rfl _ rfl) rfl
              have q2518 : f 142 = (Value.slice z2 m2 k2) := vt (hA1801.at_ 10 rfl _ rfl) rfl
              have q2519 : f 143 = (Value.int .i64 ((i7 : Int))) := vt (hA1801.at_ 11 rfl _ rfl) rfl
              have q2520 : f 144 = (Value.int .i64 ((i9 : Int))) := vt (hA1801.at_ 12 rfl _ rfl) rfl
              refine opg_taken (c := x357) rfl rfl rfl rfl q2517 hc239 (op_call_v (vs := [(Value.slice z2 m2 k2), (Value.int .i64 ((i7 : Int))), (Value.int .i64 (6)), (Value.int .i64 ((i9 : Int)))]) (r := (Value.bool (x358))) rfl ca70 rfl (args4 q2518 q2519 rfl q2520) I3138 (fun Fr_ hF_ => F70_ok hF_ (h2_.mono ((((((((((le1.trans le10).trans le1837).trans le1852).trans le1853).trans le1964).trans le1965).trans le1966).trans le1967).trans le2324).trans le2351)) hx358) (fun w2483 I3139 => ?_))
              refine ⟨_, _, rfl, PH.Le.refl _, ?_, ?_⟩
              ·
               exact rfl
              ·
               exact I3139
             ·
              intro vs1895 f w2484 S2352 X1802 le2352 hA1802 hK1895 hI1915
              have I3140 : Inv w2484 S2352 (X1802) := hI1915
              have q2521 : f 141 = (Value.bool (x357)) := vt (hA1802.at_ 9 rfl _ rfl) rfl
              have q2522 : f 145 = (Value.bool (x358)) := vt (hA1802.at_ 13 rfl _ rfl) rfl
              refine opg_taken (c := x357) rfl rfl rfl rfl q2521 hc239 (op_not (b := x358) rfl q2522 ?_)
              refine ⟨_, _, rfl, PH.Le.refl _, ?_, ?_⟩
              ·
               exact rfl
              ·
               exact I3140
             ·
              intro vs1896 f w2485 S2353 X1803 le2353 hA1803 hK1896 hI1916
              have I3141 : Inv w2485 S2353 (X1803) := hI1916
              have q2523 : f 141 = (Value.bool (x357)) := vt (hA1803.at_ 9 rfl _ rfl) rfl
              have q2524 : f 146 = (Value.bool (!x358)) := vt (hA1803.at_ 14 rfl _ rfl) rfl
              refine opg_taken (c := x357) rfl rfl rfl rfl q2523 hc239 (op_move (v := (Value.bool (!x358))) rfl q2524 ?_)
              refine ⟨_, _, rfl, PH.Le.refl _, ?_, ?_⟩
              ·
               exact rfl
              ·
               exact I3141
             ·
              intro vs1897 f w2486 S2354 X1804 le2354 hA1804 hK1897 hI1917
              have I3142 : Inv w2486 S2354 (X1804) := hI1917
              have q2525 : f 147 = (Value.bool (!x358)) := vt (hA1804.at_ 15 rfl _ rfl) rfl
              exact opg_skip (c := !x358) rfl rfl rfl rfl q2525 hc240 rfl ⟨_, _, rfl, PH.Le.refl _, rfl, I3142⟩
             ·
              intro vs1898 f w2487 S2355 X1805 le2355 hA1805 hK1898 hI1918
              have I3143 : Inv w2487 S2355 (X1805) := hI1918
              have q2526 : f 141 = (Value.bool (x357)) := vt (hA1805.at_ 9 rfl _ rfl) rfl
              have q2527 : f 147 = (Value.bool (!x358)) := vt (hA1805.at_ 15 rfl _ rfl) rfl
              have q2528 : f 148 = undef := vt (hA1805.at_ 16 rfl _ rfl) rfl
              refine opg_taken (c := x357) rfl rfl rfl rfl q2526 hc239 (op_pick_t (c := !x358) (a := (Value.bool (true))) rfl q2527 hc240 rfl ?_)
              refine ⟨_, _, rfl, PH.Le.refl _, ?_, ?_⟩
              ·
               exact rfl
              ·
               exact I3143
             ·
              intro vs1899 f w2488 S2356 X1806 le2356 hA1806 hK1899 hI1919
              have I3144 : Inv w2488 S2356 (X1806) := hI1919
              have q2529 : f 141 = (Value.bool (x357)) := vt (hA1806.at_ 9 rfl _ rfl) rfl
              have q2530 : f 149 = (Value.bool (true)) := vt (hA1806.at_ 17 rfl _ rfl) rfl
              refine opg_plain rfl rfl (op_pick_t (c := x357) (a := (Value.bool (true))) rfl q2529 hc239 q2530 ?_)
              refine ⟨_, _, rfl, PH.Le.refl _, ?_, ?_⟩
              ·
               exact rfl
              ·
               exact I3144
             ·
              intro vs1900 f w2489 S2357 X1807 le2357 hA1807 hK1900 hI1920
              have I3145 : Inv w2489 S2357 (Row (α := Bool) 4 (Value.slice z294 m294 k294) (s13) :: X1807) := hI1920
              have q2531 : f 130 = (Value.slice z294 m294 k294) := vt (hA1807.at_ 1 rfl _ rfl) rfl
              have q2532 : f 131 = (Value.int .i64 ((i9 : Int))) := vt (hA1807.at_ 2 rfl _ rfl) rfl
              refine opg_plain rfl rfl (op_indexAddr_src (v := (Value.slice z294 m294 k294)) (i := (i9 : Int)) (e := x359) rfl Try.underlying83 sh4 q2531 (Inv.rowSrc (I3145.nth 0 rfl)) q2532 hx359 ?_)
              refine ⟨_, _, rfl, PH.Le.refl _, ?_, ?_⟩
              ·
               exact rfl
              ·
               exact I3145
             ·
              intro vs1901 f w2490 S2358 X1808 le2358 hA1808 hK1901 hI1921
              have I3146 : Inv w2490 S2358 (Row (α := Bool) 4 (Value.slice z294 m294 k294) (s13) :: X1808) := hI1921
              have q2533 : f 150 = (Value.bool (true)) := vt (hA1808.at_ 21 rfl _ rfl) rfl
              have q2534 : f 151 = (elemPtr (Value.slice z294 m294 k294) ((i9 : Int)) (Enc.sz Bool)) := vt (hA1808.at_ 22 rfl _ rfl) rfl
              refine opg_plain rfl rfl (op_storeRow (u := (Value.bool (true))) (e' := true) sh4 I3146 q2534 q2533 hx359 (rv_bool' _) (fun w2491 I3147 => ?_))
              refine ⟨undef, _, rfl, PH.Le.refl _, ?_, ?_⟩
              ·
               exact trivial
              ·
               exact I3147
             ·
              intro vs1902 f w2492 S2359 le2359 hF94 hK1902 hI1922
              have e2679 : f 1 = (Value.int .i64 (a1)) := (hK1902 1 (keep_all rfl)).trans e2665
              have e2680 : f 2 = (Value.slice z2 m2 k2) := (hK1902 2 (keep_all rfl)).trans e2666
              have e2681 : f 3 = (Value.pointer (some ⟨g1, 0, none⟩)) := (hK1902 3 (keep_all rfl)).trans e2667
              have e2682 : f 7 = (Value.slice z328 m328 k328) := (hK1902 7 (keep_all rfl)).trans e2668
              have e2683 : f 8 = (Value.slice z7 m7 k7) := (hK1902 8 (keep_all rfl)).trans e2669
              have e2684 : f 9 = (Value.slice z8 m8 k8) := (hK1902 9 (keep_all rfl)).trans e2670
              have e2685 : f 10 = (Value.int .i64 ((i7 : Int))) := (hK1902 10 (keep_all rfl)).trans e2671
              have e2686 : f 11 = (Value.pointer (some ⟨g13, 0, none⟩)) := (hK1902 11 (keep_all rfl)).trans e2672
              have e2687 : f 15 = (Value.int .i64 ((i9 : Int))) := (hK1902 15 (keep_all rfl)).trans e2673
              have I3148 : Inv w2492 S2359 (Cells (ptrBlk (Value.pointer (some ⟨g13, 0, none⟩))) 85 #[(Value.bool (x273)), (Value.slice z297 m297 k297), (Value.slice z298 m298 k298), (Value.slice z293 m293 k293), (Value.slice z294 m294 k294)] :: Row (α := FrameV) 85 (Value.slice z328 m328 k328) (lV4 ++ [(⟨x273, x306, x307, out12.1, ⟨(Value.slice z294 m294 k294)⟩⟩ : FrameV)]) :: Row (α := Bool) 4 (Value.slice z294 m294 k294) (s13.set ((i9 : Int)).toNat true) :: Row (α := Int) 3 (Value.slice z7 m7 k7) (out11.1) :: Row (α := Int) 3 (Value.slice z8 m8 k8) (out11.2) :: Fr) := hI1922
              refine wp_region' ?_
              refine wl_op rfl (op_move (v := (Value.int .i64 ((i9 : Int)))) rfl e2687 ?_)
              refine wl_op rfl (op_add (a := (i9 : Int)) (b := 1) rfl rfl rfl ?_)
              refine wl_op rfl (op_assign (v := (Value.int .i64 (w64 ((i9 : Int) + 1)))) rfl rfl ?_)
              refine wl_nil ?_
              obtain rfl := Option.some.inj h202
              exact ⟨_, (le2324.trans le2359), ((((I3148.pull 4).pull 4).pull 4).pull 4), e2679, e2680, e2681, e2682, e2683, e2684, e2685, e2686, (idx_next hlt9 hk4)⟩
            ·
             obtain ⟨x360, hx360, h202⟩ := bnd h202
             refine wp_draw (sps := [⟨some 129, [], [0], fun vs_ T_ => fr0 vs_ 0 = (Value.pointer (some ⟨g13, 4, none⟩)), [], [], [], fun _ h_ => h_⟩, ⟨some 130, [0], [1], fun vs_ T_ => fr0 vs_ 0 = (Value.slice z294 m294 k294), [0], [], [], fun _ h_ => h_⟩, ⟨some 131, [], [2], fun vs_ T_ => fr0 vs_ 0 = (Value.int .i64 ((i9 : Int))), [], [], [], fun _ h_ => h_⟩, ⟨some 132, [], [3], fun vs_ T_ => fr0 vs_ 0 = (Value.pointer (some ⟨g13, 0, none⟩)), [], [], [], fun _ h_ => h_⟩, ⟨some 133, [3], [4], fun vs_ T_ => fr0 vs_ 0 = (Value.bool (x273)), [0], [], [], fun _ h_ => h_⟩, ⟨some 134, [3, 4], [5], fun vs_ T_ => fr0 vs_ 0 = (Value.bool (x273)), [], [], [], fun _ h_ => h_⟩, ⟨some 135, [3, 4, 5], [6], fun vs_ T_ => RV T_ (fr0 vs_ 0) a0, [], [], [], fun hle_ h_ => h_.mono hle_⟩, ⟨some 136, [3, 4, 5], [7], fun vs_ T_ => fr0 vs_ 0 = (Value.slice z2 m2 k2), [], [], [], fun _ h_ => h_⟩, ⟨some 137, [3, 4, 5], [8], fun vs_ T_ => fr0 vs_ 0 = (Value.int .i64 ((i9 : Int))), [], [], [], fun _ h_ => h_⟩, ⟨some 138, [3, 4, 5], [9], fun vs_ T_ => fr0 vs_ 0 = (Value.slice z328 m328 k328), [], [], [], fun _ h_ => h_⟩, ⟨some 139, [3, 4, 5, 6, 7, 8, 9], [10], fun vs_ T_ => fr0 vs_ 0 = (Value.bool (x357)), [1, 2], [], [], fun _ h_ => h_⟩, ⟨some 140, [3, 4, 5, 6, 7, 8, 9, 10], [11], fun vs_ T_ => fr0 vs_ 0 = (Value.bool (x357)), [], [], [], fun _ h_ => h_⟩, ⟨some 141, [3, 4, 5, 6, 7, 8, 9, 10, 11], [12], fun vs_ T_ => fr0 vs_ 0 = (Value.bool (x357)), [], [], [], fun _ h_ => h_⟩, ⟨some 142, [3, 4, 5, 6, 7, 8, 9, 10, 11, 12], [13], fun vs_ T_ => fr0 vs_ 0 = (Value.slice z2 m2 k2), [], [], [], fun _ h_ => h_⟩, ⟨some 143, [3, 4, 5, 6, 7, 8, 9, 10, 11, 12], [14], fun vs_ T_ => fr0 vs_ 0 = (Value.int .i64 ((i7 : Int))), [], [], [], fun _ h_ => h_⟩, ⟨some 144, [3, 4, 5, 6, 7, 8, 9, 10, 11, 12], [15], fun vs_ T_ => fr0 vs_ 0 = (Value.int .i64 ((i9 : Int))), [], [], [], fun _ h_ => h_⟩, ⟨some 145, [3, 4, 5, 6, 7, 8, 9, 10, 11, 12, 13, 14, 15], [16], fun vs_ T_ => fr0 vs_ 0 = (Value.bool (x358)), [], [], [], fun _ h_ => h_⟩, ⟨some 146, [3, 4, 5, 6, 7, 8, 9, 10, 11, 12, 13, 14, 15, 16], [17], fun vs_ T_ => fr0 vs_ 0 = (Value.bool (!x358)), [], [], [], fun _ h_ => h_⟩, ⟨some 147, [3, 4, 5, 6, 7, 8, 9, 10, 11, 12, 13, 14, 15, 16, 17], [18], fun vs_ T_ => fr0 vs_ 0 = (Value.bool (!x358)), [], [], [], fun _ h_ => h_⟩, ⟨some 148, [3, 4, 5, 6, 7, 8, 9, 10, 11, 12, 13, 14, 15, 16, 17, 18], [19], fun vs_ T_ => fr0 vs_ 0 = (Value.bool (v240)), [], [], [], fun _ h_ => h_⟩, ⟨some 149, [3, 4, 5, 6, 7, 8, 9, 10, 11, 12, 13, 14, 15, 16, 17, 18, 19], [20], fun vs_ T_ => fr0 vs_ 0 = (Value.bool (v240)), [], [], [], fun _ h_ => h_⟩, ⟨some 150, [3, 4, 5, 6, 7, 8, 9, 10, 11, 12, 13, 14, 15, 16, 17, 18, 19, 20], [21], fun vs_ T_ => fr0 vs_ 0 = (Value.bool (v240)), [], [], [], fun _ h_ => h_⟩, ⟨some 151, [0, 1, 2, 3, 4, 5, 6, 7, 8, 9, 10, 11, 12, 13, 14, 15, 16, 17, 18, 19, 20, 21], [22], fun vs_ T_ => fr0 vs_ 0 = (elemPtr (Value.slice z294 m294 k294) ((i9 : Int)) (Enc.sz Bool)), [2], [], [], fun _ h_ => h_⟩, ⟨none, [0, 1, 2, 3, 4, 5, 6, 7, 8, 9, 10, 11, 12, 13, 14, 15, 16, 17, 18, 19, 20, 21, 22], [], fun vs_ T_ => True, [], [2], [3], fun _ h_ => h_⟩]) (tks := [⟨none, none, [], fun vs_ => Cells (ptrBlk (Value.pointer (some ⟨g13, 0, none⟩))) 85 #[(Value.bool (x273)), (Value.slice z297 m297 k297), (Value.slice z298 m298 k298), (Value.slice z293 m293 k293), (Value.slice z294 m294 k294)]⟩, ⟨none, none, [], fun vs_ => Row (α := FrameV) 85 (Value.slice z328 m328 k328) (lV4 ++ [(⟨x273, x306, x307, out12.1, ⟨(Value.slice z294 m294 k294)⟩⟩ : FrameV)])⟩, ⟨none, some 23, [], fun vs_ => Row (α := Bool) 4 (Value.slice z294 m294 k294) (s13)⟩, ⟨some 23, none, [], fun vs_ => Row (α := Bool) 4 (Value.slice z294 m294 k294) (s13.set ((i9 : Int)).toNat v240)⟩]) (O := Row (α := Int) 3 (Value.slice z7 m7 k7) (out11.1) :: Row (α := Int) 3 (Value.slice z8 m8 k8) (out11.2) :: Fr) rfl (by kernel_rfl) (((I3106.pull 1).pull 1).pull 4) ⟨?_, ?_, ?_, ?_, ?_, ?_, ?_, ?_, ?_, ?_, ?_, ?_, ?_, ?_, ?_, ?_, ?_, ?_, ?_, ?_, ?_, ?_, ?_, ?_, trivial⟩ ?_
             ·
              intro vs1903 f w2496 S2362 X1809 le2362 hA1809 hK1903 hI1923
              have I3154 : Inv w2496 S2362 (X1809) := hI1923
              refine opg_plain rfl rfl (op_fieldAddr (v := (Value.pointer (some ⟨g13, 0, none⟩))) rfl fa85_4 ((hK1903 11 (keep_of rfl)).trans e2672) rfl ?_)
              refine ⟨_, _, rfl, PH.Le.refl _, ?_, ?_⟩
              ·
               exact rfl
              ·
               exact I3154
             ·
              intro vs1904 f w2497 S2363 X1810 le2363 hA1810 hK1904 hI1924
              have I3155 : Inv w2497 S2363 (Cells (ptrBlk (Value.pointer (some ⟨g13, 0, none⟩))) 85 #[(Value.bool (x273)), (Value.slice z297 m297 k297), (Value.slice z298 m298 k298), (Value.slice z293 m293 k293), (Value.slice z294 m294 k294)] :: X1810) := hI1924
              have q2535 : f 129 = (Value.pointer (some ⟨g13, 4, none⟩)) := vt (hA1810.at_ 0 rfl _ rfl) rfl
              refine opg_plain rfl rfl (op_load1 (c := (Value.slice z294 m294 k294)) rfl sh83 (I3155.nth 0 rfl) q2535 rfl ?_)
              refine ⟨_, _, rfl, PH.Le.refl _, ?_, ?_⟩
              ·
               exact rfl
              ·
               exact I3155
             ·
              intro vs1905 f w2498 S2364 X1811 le2364 hA1811 hK1905 hI1925
              have I3156 : Inv w2498 S2364 (X1811) := hI1925
              refine opg_plain rfl rfl (op_move (v := (Value.int .i64 ((i9 : Int)))) rfl ((hK1905 15 (keep_of rfl)).trans e2673) ?_)
              refine ⟨_, _, rfl, PH.Le.refl _, ?_, ?_⟩
              ·
               exact rfl
              ·
               exact I3156
             ·
              intro vs1906 f w2499 S2365 X1812 le2365 hA1812 hK1906 hI1926
              have I3157 : Inv w2499 S2365 (X1812) := hI1926
              refine opg_plain rfl rfl (op_fieldAddr (v := (Value.pointer (some ⟨g13, 0, none⟩))) rfl fa85_0 ((hK1906 11 (keep_of rfl)).trans e2672) rfl ?_)
              refine ⟨_, _, rfl, PH.Le.refl _, ?_, ?_⟩
              ·
               exact rfl
              ·
               exact I3157
             ·
              intro vs1907 f w2500 S2366 X1813 le2366 hA1813 hK1907 hI1927
              have I3158 : Inv w2500 S2366 (Cells (ptrBlk (Value.pointer (some ⟨g13, 0, none⟩))) 85 #[(Value.bool (x273)), (Value.slice z297 m297 k297), (Value.slice z298 m298 k298), (Value.slice z293 m293 k293), (Value.slice z294 m294 k294)] :: X1813) := hI1927
              have q2536 : f 132 = (Value.pointer (some ⟨g13, 0, none⟩)) := vt (hA1813.at_ 0 rfl _ rfl) rfl
              refine opg_plain rfl rfl (op_load1 (c := (Value.bool (x273))) rfl sh4 (I3158.nth 0 rfl) q2536 rfl ?_)
              refine ⟨_, _, rfl, PH.Le.refl _, ?_, ?_⟩
              ·
               exact rfl
              ·
               exact I3158
             ·
              intro vs1908 f w2501 S2367 X1814 le2367 hA1814 hK1908 hI1928
              have I3159 : Inv w2501 S2367 (X1814) := hI1928
              have q2537 : f 133 = (Value.bool (x273)) := vt (hA1814.at_ 1 rfl _ rfl) rfl
              refine opg_plain rfl rfl (op_move (v := (Value.bool (x273))) rfl q2537 ?_)
              refine ⟨_, _, rfl, PH.Le.refl _, ?_, ?_⟩
              ·
               exact rfl
              ·
               exact I3159
             ·
              intro vs1909 f w2502 S2368 X1815 le2368 hA1815 hK1909 hI1929
              have I3160 : Inv w2502 S2368 (X1815) := hI1929
              have q2538 : f 134 = (Value.bool (x273)) := vt (hA1815.at_ 2 rfl _ rfl) rfl
              refine opg_taken (c := x273) rfl rfl rfl rfl q2538 hc238 (op_load (v := (Value.pointer (some ⟨g1, 0, none⟩))) (e := a0) rfl sh24 ((hK1909 3 (keep_of rfl)).trans e2667) ((p1.mono (((((((((le10.trans le1837).trans le1852).trans le1853).trans le1964).trans le1965).trans le1966).trans le1967).trans le2324).trans le2368)).at_ I3160) (fun u454 hu418 => ?_))
              obtain ⟨c154, e2688, r789⟩ := Panel.inv hu418
              subst e2688
              obtain ⟨z367, m367, k367, e2689⟩ := rv_form r789
              subst e2689
              refine ⟨_, _, rfl, PH.Le.refl _, ?_, ?_⟩
              ·
               exact (Panel.rv (s := a0) r789)
              ·
               exact I3160
             ·
              intro vs1910 f w2503 S2369 X1816 le2369 hA1816 hK1910 hI1930
              have I3161 : Inv w2503 S2369 (X1816) := hI1930
              have q2539 : f 134 = (Value.bool (x273)) := vt (hA1816.at_ 2 rfl _ rfl) rfl
              refine opg_taken (c := x273) rfl rfl rfl rfl q2539 hc238 (op_move (v := (Value.slice z2 m2 k2)) rfl ((hK1910 2 (keep_of rfl)).trans e2666) ?_)
              refine ⟨_, _, rfl, PH.Le.refl _, ?_, ?_⟩
              ·
               exact rfl
              ·
               exact I3161
             ·
              intro vs1911 f w2504 S2370 X1817 le2370 hA1817 hK1911 hI1931
              have I3162 : Inv w2504 S2370 (X1817) := hI1931
              have q2540 : f 134 = (Value.bool (x273)) := vt (hA1817.at_ 2 rfl _ rfl) rfl
              refine opg_taken (c := x273) rfl rfl rfl rfl q2540 hc238 (op_move (v := (Value.int .i64 ((i9 : Int)))) rfl ((hK1911 15 (keep_of rfl)).trans e2673) ?_)
              refine ⟨_, _, rfl, PH.Le.refl _, ?_, ?_⟩
              ·
               exact rfl
              ·
               exact I3162
             ·
              intro vs1912 f w2505 S2371 X1818 le2371 hA1818 hK1912 hI1932
              have I3163 : Inv w2505 S2371 (X1818) := hI1932
              have q2541 : f 134 = (Value.bool (x273)) := vt (hA1818.at_ 2 rfl _ rfl) rfl
              refine opg_taken (c := x273) rfl rfl rfl rfl q2541 hc238 (op_move (v := (Value.slice z328 m328 k328)) rfl ((hK1912 7 (keep_of rfl)).trans e2668) ?_)
              refine ⟨_, _, rfl, PH.Le.refl _, ?_, ?_⟩
              ·
               exact rfl
              ·
               exact I3163
             ·
              intro vs1913 f w2506 S2372 X1819 le2372 hA1819 hK1913 hI1933
              have I3164 : Inv w2506 S2372 (Row (α := FrameV) 85 (Value.slice z328 m328 k328) (lV4 ++ [(⟨x273, x306, x307, out12.1, ⟨(Value.slice z294 m294 k294)⟩⟩ : FrameV)]) :: Row (α := Bool) 4 (Value.slice z294 m294 k294) (s13) :: X1819) := hI1933
              have q2542 : f 134 = (Value.bool (x273)) := vt (hA1819.at_ 2 rfl _ rfl) rfl
              have q2543 : f 135 = vs1913 6 := (hA1819.at_ 3 rfl _ rfl).1 _ rfl
              have r790 : RV S2372 (vs1913 6) a0 := (hA1819.at_ 3 rfl _ rfl).2
              obtain ⟨u455, hu419⟩ : ∃ u, vs1913 6 = u := ⟨_, rfl⟩
              rw [hu419] at q2543 r790
              obtain ⟨c155, e2690, r791⟩ := Panel.inv r790
              subst e2690
              obtain ⟨z368, m368, k368, e2691⟩ := rv_form r791
              subst e2691
              have q2544 : f 136 = (Value.slice z2 m2 k2) := vt (hA1819.at_ 4 rfl _ rfl) rfl
              have q2545 : f 137 = (Value.int .i64 ((i9 : Int))) := vt (hA1819.at_ 5 rfl _ rfl) rfl
              have q2546 : f 138 = (Value.slice z328 m328 k328) := vt (hA1819.at_ 6 rfl _ rfl) rfl
              obtain ⟨S2373, Fr214, le2373, I3165, r792, r793, bk214⟩ := Inv.lend2 ((I3164.pull 1).pull 1)
              refine opg_taken (c := x273) rfl rfl rfl rfl q2542 hc238 (op_call (vs := [(Value.agg #[(Value.int .i64 (a0.Sensors)), (Value.slice z368 m368 k368), (Value.int .i64 (a0.Stale)), (Value.int .i64 (a0.Limit))]), (Value.slice z2 m2 k2), (Value.int .i64 ((i9 : Int))), (Value.slice z328 m328 k328)]) rfl ca72 rfl (args4 q2543 q2544 q2545 q2546) (F72_ok I3165 (Panel.rv (s := a0) (r791.mono le2373)) (h2_.mono (((((((((((le1.trans le10).trans le1837).trans le1852).trans le1853).trans le1964).trans le1965).trans le1966).trans le1967).trans le2324).trans le2372).trans le2373)) (frame_rv (frame_rel (frame_relm ((le2324.trans le2372).trans le2373) hR4) ⟨rfl, rfl, rfl, rfl, r793⟩) r792) hx357) (fun v246 w2507 S2374 O186 le2374 I3167 hv186 => ?_))
              obtain ⟨rfl, rfl⟩ := hv186
              have I3166 := bk214 [] trivial I3167 le2374
              refine ⟨_, _, rfl, PH.Le.refl _, ?_, ?_⟩
              ·
               exact rfl
              ·
               exact ((I3166.pull 1).pull 1)
             ·
              intro vs1914 f w2508 S2375 X1820 le2375 hA1820 hK1914 hI1934
              have I3168 : Inv w2508 S2375 (X1820) := hI1934
              have q2547 : f 134 = (Value.bool (x273)) := vt (hA1820.at_ 2 rfl _ rfl) rfl
              have q2548 : f 139 = (Value.bool (x357)) := vt (hA1820.at_ 7 rfl _ rfl) rfl
              refine opg_plain rfl rfl (op_pick_t (c := x273) (a := (Value.bool (x357))) rfl q2547 hc238 q2548 ?_)
              refine ⟨_, _, rfl, PH.Le.refl _, ?_, ?_⟩
              ·
               exact rfl
              ·
               exact I3168
             ·
              intro vs1915 f w2509 S2376 X1821 le2376 hA1821 hK1915 hI1935
              have I3169 : Inv w2509 S2376 (X1821) := hI1935
              have q2549 : f 140 = (Value.bool (x357)) := vt (hA1821.at_ 8 rfl _ rfl) rfl
              refine opg_plain rfl rfl (op_move (v := (Value.bool (x357))) rfl q2549 ?_)
              refine ⟨_, _, rfl, PH.Le.refl _, ?_, ?_⟩
              ·
               exact rfl
              ·
               exact I3169
             ·
              intro vs1916 f w2510 S2377 X1822 le2377 hA1822 hK1916 hI1936
              have I3170 : Inv w2510 S2377 (X1822) := hI1936
              have q2550 : f 141 = (Value.bool (x357)) := vt (hA1822.at_ 9 rfl _ rfl) rfl
              refine opg_taken (c := x357) rfl rfl rfl rfl q2550 hc239 (op_move (v := (Value.slice z2 m2 k2)) rfl ((hK1916 2 (keep_of rfl)).trans e2666) ?_)
              refine ⟨_, _, rfl, PH.Le.refl _, ?_, ?_⟩
              ·
               exact rfl
              ·
               exact I3170
             ·
              intro vs1917 f w2511 S2378 X1823 le2378 hA1823 hK1917 hI1937
              have I3171 : Inv w2511 S2378 (X1823) := hI1937
              have q2551 : f 141 = (Value.bool (x357)) := vt (hA1823.at_ 9 rfl _ rfl) rfl
              refine opg_taken (c := x357) rfl rfl rfl rfl q2551 hc239 (op_move (v := (Value.int .i64 ((i7 : Int)))) rfl ((hK1917 10 (keep_of rfl)).trans e2671) ?_)
              refine ⟨_, _, rfl, PH.Le.refl _, ?_, ?_⟩
              ·
               exact rfl
              ·
               exact I3171
             ·
              intro vs1918 f w2512 S2379 X1824 le2379 hA1824 hK1918 hI1938
              have I3172 : Inv w2512 S2379 (X1824) := hI1938
              have q2552 : f 141 = (Value.bool (x357)) := vt (hA1824.at_ 9 rfl _ rfl) rfl
              refine opg_taken (c := x357) rfl rfl rfl rfl q2552 hc239 (op_move (v := (Value.int .i64 ((i9 : Int)))) rfl ((hK1918 15 (keep_of rfl)).trans e2673) ?_)
              refine ⟨_, _, rfl, PH.Le.refl _, ?_, ?_⟩
              ·
               exact rfl
              ·
               exact I3172
             ·
              intro vs1919 f w2513 S2380 X1825 le2380 hA1825 hK1919 hI1939
              have I3173 : Inv w2513 S2380 (X1825) := hI1939
              have q2553 : f 141 = (Value.bool (x357)) := vt (hA1825.at_ 9 rfl _ rfl) rfl
              have q2554 : f 142 = (Value.slice z2 m2 k2) := vt (hA1825.at_ 10 rfl _ rfl) rfl
              have q2555 : f 143 = (Value.int .i64 ((i7 : Int))) := vt (hA1825.at_ 11 rfl _ rfl) rfl
              have q2556 : f 144 = (Value.int .i64 ((i9 : Int))) := vt (hA1825.at_ 12 rfl _ rfl) rfl
              refine opg_taken (c := x357) rfl rfl rfl rfl q2553 hc239 (op_call_v (vs := [(Value.slice z2 m2 k2), (Value.int .i64 ((i7 : Int))), (Value.int .i64 (6)), (Value.int .i64 ((i9 : Int)))]) (r := (Value.bool (x358))) rfl ca70 rfl (args4 q2554 q2555 rfl q2556) I3173 (fun Fr_ hF_ => F70_ok hF_ (h2_.mono ((((((((((le1.trans le10).trans le1837).trans le1852).trans le1853).trans le1964).trans le1965).trans le1966).trans le1967).trans le2324).trans le2380)) hx358) (fun w2514 I3174 => ?_))
              refine ⟨_, _, rfl, PH.Le.refl _, ?_, ?_⟩
              ·
               exact rfl
              ·
               exact I3174
             ·
              intro vs1920 f w2515 S2381 X1826 le2381 hA1826 hK1920 hI1940
              have I3175 : Inv w2515 S2381 (X1826) := hI1940
              have q2557 : f 141 = (Value.bool (x357)) := vt (hA1826.at_ 9 rfl _ rfl) rfl
              have q2558 : f 145 = (Value.bool (x358)) := vt (hA1826.at_ 13 rfl _ rfl) rfl
              refine opg_taken (c := x357) rfl rfl rfl rfl q2557 hc239 (op_not (b := x358) rfl q2558 ?_)
              refine ⟨_, _, rfl, PH.Le.refl _, ?_, ?_⟩
              ·
               exact rfl
              ·
               exact I3175
             ·
              intro vs1921 f w2516 S2382 X1827 le2382 hA1827 hK1921 hI1941
              have I3176 : Inv w2516 S2382 (X1827) := hI1941
              have q2559 : f 141 = (Value.bool (x357)) := vt (hA1827.at_ 9 rfl _ rfl) rfl
              have q2560 : f 146 = (Value.bool (!x358)) := vt (hA1827.at_ 14 rfl _ rfl) rfl
              refine opg_taken (c := x357) rfl rfl rfl rfl q2559 hc239 (op_move (v := (Value.bool (!x358))) rfl q2560 ?_)
              refine ⟨_, _, rfl, PH.Le.refl _, ?_, ?_⟩
              ·
               exact rfl
              ·
               exact I3176
             ·
              intro vs1922 f w2517 S2383 X1828 le2383 hA1828 hK1922 hI1942
              have I3177 : Inv w2517 S2383 (X1828) := hI1942
              have q2561 : f 147 = (Value.bool (!x358)) := vt (hA1828.at_ 15 rfl _ rfl) rfl
              refine opg_taken (c := !x358) rfl rfl rfl rfl q2561 hc240 (op_move (v := (Value.bool (v240))) rfl ((hK1922 16 (keep_of rfl)).trans e2674) ?_)
              refine ⟨_, _, rfl, PH.Le.refl _, ?_, ?_⟩
              ·
               exact rfl
              ·
               exact I3177
             ·
              intro vs1923 f w2518 S2384 X1829 le2384 hA1829 hK1923 hI1943
              have I3178 : Inv w2518 S2384 (X1829) := hI1943
              have q2562 : f 141 = (Value.bool (x357)) := vt (hA1829.at_ 9 rfl _ rfl) rfl
              have q2563 : f 147 = (Value.bool (!x358)) := vt (hA1829.at_ 15 rfl _ rfl) rfl
              have q2564 : f 148 = (Value.bool (v240)) := vt (hA1829.at_ 16 rfl _ rfl) rfl
              refine opg_taken (c := x357) rfl rfl rfl rfl q2562 hc239 (op_pick_f (c := !x358) (b := (Value.bool (v240))) rfl q2563 hc240 q2564 ?_)
              refine ⟨_, _, rfl, PH.Le.refl _, ?_, ?_⟩
              ·
               exact rfl
              ·
               exact I3178
             ·
              intro vs1924 f w2519 S2385 X1830 le2385 hA1830 hK1924 hI1944
              have I3179 : Inv w2519 S2385 (X1830) := hI1944
              have q2565 : f 141 = (Value.bool (x357)) := vt (hA1830.at_ 9 rfl _ rfl) rfl
              have q2566 : f 149 = (Value.bool (v240)) := vt (hA1830.at_ 17 rfl _ rfl) rfl
              refine opg_plain rfl rfl (op_pick_t (c := x357) (a := (Value.bool (v240))) rfl q2565 hc239 q2566 ?_)
              refine ⟨_, _, rfl, PH.Le.refl _, ?_, ?_⟩
              ·
               exact rfl
              ·
               exact I3179
             ·
              intro vs1925 f w2520 S2386 X1831 le2386 hA1831 hK1925 hI1945
              have I3180 : Inv w2520 S2386 (Row (α := Bool) 4 (Value.slice z294 m294 k294) (s13) :: X1831) := hI1945
              have q2567 : f 130 = (Value.slice z294 m294 k294) := vt (hA1831.at_ 1 rfl _ rfl) rfl
              have q2568 : f 131 = (Value.int .i64 ((i9 : Int))) := vt (hA1831.at_ 2 rfl _ rfl) rfl
              refine opg_plain rfl rfl (op_indexAddr_src (v := (Value.slice z294 m294 k294)) (i := (i9 : Int)) (e := x360) rfl Try.underlying83 sh4 q2567 (Inv.rowSrc (I3180.nth 0 rfl)) q2568 hx360 ?_)
              refine ⟨_, _, rfl, PH.Le.refl _, ?_, ?_⟩
              ·
               exact rfl
              ·
               exact I3180
             ·
              intro vs1926 f w2521 S2387 X1832 le2387 hA1832 hK1926 hI1946
              have I3181 : Inv w2521 S2387 (Row (α := Bool) 4 (Value.slice z294 m294 k294) (s13) :: X1832) := hI1946
              have q2569 : f 150 = (Value.bool (v240)) := vt (hA1832.at_ 21 rfl _ rfl) rfl
              have q2570 : f 151 = (elemPtr (Value.slice z294 m294 k294) ((i9 : Int)) (Enc.sz Bool)) := vt (hA1832.at_ 22 rfl _ rfl) rfl
              refine opg_plain rfl rfl (op_storeRow (u := (Value.bool (v240))) (e' := v240) sh4 I3181 q2570 q2569 hx360 (rv_bool' _) (fun w2522 I3182 => ?_))
              refine ⟨undef, _, rfl, PH.Le.refl _, ?_, ?_⟩
              ·
               exact trivial
              ·
               exact I3182
             ·
              intro vs1927 f w2523 S2388 le2388 hF95 hK1927 hI1947
              have e2692 : f 1 = (Value.int .i64 (a1)) := (hK1927 1 (keep_all rfl)).trans e2665
              have e2693 : f 2 = (Value.slice z2 m2 k2) := (hK1927 2 (keep_all rfl)).trans e2666
              have e2694 : f 3 = (Value.pointer (some ⟨g1, 0, none⟩)) := (hK1927 3 (keep_all rfl)).trans e2667
              have e2695 : f 7 = (Value.slice z328 m328 k328) := (hK1927 7 (keep_all rfl)).trans e2668
              have e2696 : f 8 = (Value.slice z7 m7 k7) := (hK1927 8 (keep_all rfl)).trans e2669
              have e2697 : f 9 = (Value.slice z8 m8 k8) := (hK1927 9 (keep_all rfl)).trans e2670
              have e2698 : f 10 = (Value.int .i64 ((i7 : Int))) := (hK1927 10 (keep_all rfl)).trans e2671
              have e2699 : f 11 = (Value.pointer (some ⟨g13, 0, none⟩)) := (hK1927 11 (keep_all rfl)).trans e2672
              have e2700 : f 15 = (Value.int .i64 ((i9 : Int))) := (hK1927 15 (keep_all rfl)).trans e2673
              have I3183 : Inv w2523 S2388 (Cells (ptrBlk (Value.pointer (some ⟨g13, 0, none⟩))) 85 #[(Value.bool (x273)), (Value.slice z297 m297 k297), (Value.slice z298 m298 k298), (Value.slice z293 m293 k293), (Value.slice z294 m294 k294)] :: Row (α := FrameV) 85 (Value.slice z328 m328 k328) (lV4 ++ [(⟨x273, x306, x307, out12.1, ⟨(Value.slice z294 m294 k294)⟩⟩ : FrameV)]) :: Row (α := Bool) 4 (Value.slice z294 m294 k294) (s13.set ((i9 : Int)).toNat v240) :: Row (α := Int) 3 (Value.slice z7 m7 k7) (out11.1) :: Row (α := Int) 3 (Value.slice z8 m8 k8) (out11.2) :: Fr) := hI1947
              refine wp_region' ?_
              refine wl_op rfl (op_move (v := (Value.int .i64 ((i9 : Int)))) rfl e2700 ?_)
              refine wl_op rfl (op_add (a := (i9 : Int)) (b := 1) rfl rfl rfl ?_)
              refine wl_op rfl (op_assign (v := (Value.int .i64 (w64 ((i9 : Int) + 1)))) rfl rfl ?_)
              refine wl_nil ?_
              obtain rfl := Option.some.inj h202
              exact ⟨_, (le2324.trans le2388), ((((I3183.pull 4).pull 4).pull 4).pull 4), e2692, e2693, e2694, e2695, e2696, e2697, e2698, e2699, (idx_next hlt9 hk4)⟩
           ·
            obtain ⟨x361, hx361, h202⟩ := bnd h202
            refine wp_draw (sps := [⟨some 129, [], [0], fun vs_ T_ => fr0 vs_ 0 = (Value.pointer (some ⟨g13, 4, none⟩)), [], [], [], fun _ h_ => h_⟩, ⟨some 130, [0], [1], fun vs_ T_ => fr0 vs_ 0 = (Value.slice z294 m294 k294), [0], [], [], fun _ h_ => h_⟩, ⟨some 131, [], [2], fun vs_ T_ => fr0 vs_ 0 = (Value.int .i64 ((i9 : Int))), [], [], [], fun _ h_ => h_⟩, ⟨some 132, [], [3], fun vs_ T_ => fr0 vs_ 0 = (Value.pointer (some ⟨g13, 0, none⟩)), [], [], [], fun _ h_ => h_⟩, ⟨some 133, [3], [4], fun vs_ T_ => fr0 vs_ 0 = (Value.bool (x273)), [0], [], [], fun _ h_ => h_⟩, ⟨some 134, [3, 4], [5], fun vs_ T_ => fr0 vs_ 0 = (Value.bool (x273)), [], [], [], fun _ h_ => h_⟩, ⟨some 135, [3, 4, 5], [6], fun vs_ T_ => RV T_ (fr0 vs_ 0) a0, [], [], [], fun hle_ h_ => h_.mono hle_⟩, ⟨some 136, [3, 4, 5], [7], fun vs_ T_ => fr0 vs_ 0 = (Value.slice z2 m2 k2), [], [], [], fun _ h_ => h_⟩, ⟨some 137, [3, 4, 5], [8], fun vs_ T_ => fr0 vs_ 0 = (Value.int .i64 ((i9 : Int))), [], [], [], fun _ h_ => h_⟩, ⟨some 138, [3, 4, 5], [9], fun vs_ T_ => fr0 vs_ 0 = (Value.slice z328 m328 k328), [], [], [], fun _ h_ => h_⟩, ⟨some 139, [3, 4, 5, 6, 7, 8, 9], [10], fun vs_ T_ => fr0 vs_ 0 = (Value.bool (x357)), [1, 2], [], [], fun _ h_ => h_⟩, ⟨some 140, [3, 4, 5, 6, 7, 8, 9, 10], [11], fun vs_ T_ => fr0 vs_ 0 = (Value.bool (x357)), [], [], [], fun _ h_ => h_⟩, ⟨some 141, [3, 4, 5, 6, 7, 8, 9, 10, 11], [12], fun vs_ T_ => fr0 vs_ 0 = (Value.bool (x357)), [], [], [], fun _ h_ => h_⟩, ⟨some 142, [3, 4, 5, 6, 7, 8, 9, 10, 11, 12], [13], fun vs_ T_ => fr0 vs_ 0 = undef, [], [], [], fun _ h_ => h_⟩, ⟨some 143, [3, 4, 5, 6, 7, 8, 9, 10, 11, 12], [14], fun vs_ T_ => fr0 vs_ 0 = undef, [], [], [], fun _ h_ => h_⟩, ⟨some 144, [3, 4, 5, 6, 7, 8, 9, 10, 11, 12], [15], fun vs_ T_ => fr0 vs_ 0 = undef, [], [], [], fun _ h_ => h_⟩, ⟨some 145, [3, 4, 5, 6, 7, 8, 9, 10, 11, 12, 13, 14, 15], [16], fun vs_ T_ => fr0 vs_ 0 = undef, [], [], [], fun _ h_ => h_⟩, ⟨some 146, [3, 4, 5, 6, 7, 8, 9, 10, 11, 12, 13, 14, 15, 16], [17], fun vs_ T_ => fr0 vs_ 0 = undef, [], [], [], fun _ h_ => h_⟩, ⟨some 147, [3, 4, 5, 6, 7, 8, 9, 10, 11, 12, 13, 14, 15, 16, 17], [18], fun vs_ T_ => fr0 vs_ 0 = undef, [], [], [], fun _ h_ => h_⟩, ⟨some 148, [3, 4, 5, 6, 7, 8, 9, 10, 11, 12, 13, 14, 15, 16, 17, 18], [19], fun vs_ T_ => fr0 vs_ 0 = undef, [], [], [], fun _ h_ => h_⟩, ⟨some 149, [3, 4, 5, 6, 7, 8, 9, 10, 11, 12, 13, 14, 15, 16, 17, 18, 19], [20], fun vs_ T_ => fr0 vs_ 0 = undef, [], [], [], fun _ h_ => h_⟩, ⟨some 150, [3, 4, 5, 6, 7, 8, 9, 10, 11, 12, 13, 14, 15, 16, 17, 18, 19, 20], [21], fun vs_ T_ => fr0 vs_ 0 = (Value.bool (false)), [], [], [], fun _ h_ => h_⟩, ⟨some 151, [0, 1, 2, 3, 4, 5, 6, 7, 8, 9, 10, 11, 12, 13, 14, 15, 16, 17, 18, 19, 20, 21], [22], fun vs_ T_ => fr0 vs_ 0 = (elemPtr (Value.slice z294 m294 k294) ((i9 : Int)) (Enc.sz Bool)), [2], [], [], fun _ h_ => h_⟩, ⟨none, [0, 1, 2, 3, 4, 5, 6, 7, 8, 9, 10, 11, 12, 13, 14, 15, 16, 17, 18, 19, 20, 21, 22], [], fun vs_ T_ => True, [], [2], [3], fun _ h_ => h_⟩]) (tks := [⟨none, none, [], fun vs_ => Cells (ptrBlk (Value.pointer (some ⟨g13, 0, none⟩))) 85 #[(Value.bool (x273)), (Value.slice z297 m297 k297), (Value.slice z298 m298 k298), (Value.slice z293 m293 k293), (Value.slice z294 m294 k294)]⟩, ⟨none, none, [], fun vs_ => Row (α := FrameV) 85 (Value.slice z328 m328 k328) (lV4 ++ [(⟨x273, x306, x307, out12.1, ⟨(Value.slice z294 m294 k294)⟩⟩ : FrameV)])⟩, ⟨none, some 23, [], fun vs_ => Row (α := Bool) 4 (Value.slice z294 m294 k294) (s13)⟩, ⟨some 23, none, [], fun vs_ => Row (α := Bool) 4 (Value.slice z294 m294 k294) (s13.set ((i9 : Int)).toNat false)⟩]) (O := Row (α := Int) 3 (Value.slice z7 m7 k7) (out11.1) :: Row (α := Int) 3 (Value.slice z8 m8 k8) (out11.2) :: Fr) rfl (by kernel_rfl) (((I3106.pull 1).pull 1).pull 4) ⟨?_, ?_, ?_, ?_, ?_, ?_, ?_, ?_, ?_, ?_, ?_, ?_, ?_, ?_, ?_, ?_, ?_, ?_, ?_, ?_, ?_, ?_, ?_, ?_, trivial⟩ ?_
            ·
             intro vs1928 f w2526 S2391 X1833 le2391 hA1833 hK1928 hI1948
             have I3188 : Inv w2526 S2391 (X1833) := hI1948
             refine opg_plain rfl rfl (op_fieldAddr (v := (Value.pointer (some ⟨g13, 0, none⟩))) rfl fa85_4 ((hK1928 11 (keep_of rfl)).trans e2672) rfl ?_)
             refine ⟨_, _, rfl, PH.Le.refl _, ?_, ?_⟩
             ·
              exact rfl
             ·
              exact I3188
            ·
             intro vs1929 f w2527 S2392 X1834 le2392 hA1834 hK1929 hI1949
             have I3189 : Inv w2527 S2392 (Cells (ptrBlk (Value.pointer (some ⟨g13, 0, none⟩))) 85 #[(Value.bool (x273)), (Value.slice z297 m297 k297), (Value.slice z298 m298 k298), (Value.slice z293 m293 k293), (Value.slice z294 m294 k294)] :: X1834) := hI1949
             have q2571 : f 129 = (Value.pointer (some ⟨g13, 4, none⟩)) := vt (hA1834.at_ 0 rfl _ rfl) rfl
             refine opg_plain rfl rfl (op_load1 (c := (Value.slice z294 m294 k294)) rfl sh83 (I3189.nth 0 rfl) q2571 rfl ?_)
             refine ⟨_, _, rfl, PH.Le.refl _, ?_, ?_⟩
             ·
              exact rfl
             ·
              exact I3189
            ·
             intro vs1930 f w2528 S2393 X1835 le2393 hA1835 hK1930 hI1950
             have I3190 : Inv w2528 S2393 (X1835) := hI1950
             refine opg_plain rfl rfl (op_move (v := (Value.int .i64 ((i9 : Int)))) rfl ((hK1930 15 (keep_of rfl)).trans e2673) ?_)
             refine ⟨_, _, rfl, PH.Le.refl _, ?_, ?_⟩
             ·
              exact rfl
             ·
              exact I3190
            ·
             intro vs1931 f w2529 S2394 X1836 le2394 hA1836 hK1931 hI1951
             have I3191 : Inv w2529 S2394 (X1836) := hI1951
             refine opg_plain rfl rfl (op_fieldAddr (v := (Value.pointer (some ⟨g13, 0, none⟩))) rfl fa85_0 ((hK1931 11 (keep_of rfl)).trans e2672) rfl ?_)
             refine ⟨_, _, rfl, PH.Le.refl _, ?_, ?_⟩
             ·
              exact rfl
             ·
              exact I3191
            ·
             intro vs1932 f w2530 S2395 X1837 le2395 hA1837 hK1932 hI1952
             have I3192 : Inv w2530 S2395 (Cells (ptrBlk (Value.pointer (some ⟨g13, 0, none⟩))) 85 #[(Value.bool (x273)), (Value.slice z297 m297 k297), (Value.slice z298 m298 k298), (Value.slice z293 m293 k293), (Value.slice z294 m294 k294)] :: X1837) := hI1952
             have q2572 : f 132 = (Value.pointer (some ⟨g13, 0, none⟩)) := vt (hA1837.at_ 0 rfl _ rfl) rfl
             refine opg_plain rfl rfl (op_load1 (c := (Value.bool (x273))) rfl sh4 (I3192.nth 0 rfl) q2572 rfl ?_)
             refine ⟨_, _, rfl, PH.Le.refl _, ?_, ?_⟩
             ·
              exact rfl
             ·
              exact I3192
            ·
             intro vs1933 f w2531 S2396 X1838 le2396 hA1838 hK1933 hI1953
             have I3193 : Inv w2531 S2396 (X1838) := hI1953
             have q2573 : f 133 = (Value.bool (x273)) := vt (hA1838.at_ 1 rfl _ rfl) rfl
             refine opg_plain rfl rfl (op_move (v := (Value.bool (x273))) rfl q2573 ?_)
             refine ⟨_, _, rfl, PH.Le.refl _, ?_, ?_⟩
             ·
              exact rfl
             ·
              exact I3193
            ·
             intro vs1934 f w2532 S2397 X1839 le2397 hA1839 hK1934 hI1954
             have I3194 : Inv w2532 S2397 (X1839) := hI1954
             have q2574 : f 134 = (Value.bool (x273)) := vt (hA1839.at_ 2 rfl _ rfl) rfl
             refine opg_taken (c := x273) rfl rfl rfl rfl q2574 hc238 (op_load (v := (Value.pointer (some ⟨g1, 0, none⟩))) (e := a0) rfl sh24 ((hK1934 3 (keep_of rfl)).trans e2667) ((p1.mono (((((((((le10.trans le1837).trans le1852).trans le1853).trans le1964).trans le1965).trans le1966).trans le1967).trans le2324).trans le2397)).at_ I3194) (fun u457 hu421 => ?_))
             obtain ⟨c156, e2701, r796⟩ := Panel.inv hu421
             subst e2701
             obtain ⟨z369, m369, k369, e2702⟩ := rv_form r796
             subst e2702
             refine ⟨_, _, rfl, PH.Le.refl _, ?_, ?_⟩
             ·
              exact (Panel.rv (s := a0) r796)
             ·
              exact I3194
            ·
             intro vs1935 f w2533 S2398 X1840 le2398 hA1840 hK1935 hI1955
             have I3195 : Inv w2533 S2398 (X1840) := hI1955
             have q2575 : f 134 = (Value.bool (x273)) := vt (hA1840.at_ 2 rfl _ rfl) rfl
             refine opg_taken (c := x273) rfl rfl rfl rfl q2575 hc238 (op_move (v := (Value.slice z2 m2 k2)) rfl ((hK1935 2 (keep_of rfl)).trans e2666) ?_)
             refine ⟨_, _, rfl, PH.Le.refl _, ?_, ?_⟩
             ·
              exact rfl
             ·
              exact I3195
            ·
             intro vs1936 f w2534 S2399 X1841 le2399 hA1841 hK1936 hI1956
             have I3196 : Inv w2534 S2399 (X1841) := hI1956
             have q2576 : f 134 = (Value.bool (x273)) := vt (hA1841.at_ 2 rfl _ rfl) rfl
             refine opg_taken (c := x273) rfl rfl rfl rfl q2576 hc238 (op_move (v := (Value.int .i64 ((i9 : Int)))) rfl ((hK1936 15 (keep_of rfl)).trans e2673) ?_)
             refine ⟨_, _, rfl, PH.Le.refl _, ?_, ?_⟩
             ·
              exact rfl
             ·
              exact I3196
            ·
             intro vs1937 f w2535 S2400 X1842 le2400 hA1842 hK1937 hI1957
             have I3197 : Inv w2535 S2400 (X1842) := hI1957
             have q2577 : f 134 = (Value.bool (x273)) := vt (hA1842.at_ 2 rfl _ rfl) rfl
             refine opg_taken (c := x273) rfl rfl rfl rfl q2577 hc238 (op_move (v := (Value.slice z328 m328 k328)) rfl ((hK1937 7 (keep_of rfl)).trans e2668) ?_)
             refine ⟨_, _, rfl, PH.Le.refl _, ?_, ?_⟩
             ·
              exact rfl
             ·
              exact I3197
            ·
             intro vs1938 f w2536 S2401 X1843 le2401 hA1843 hK1938 hI1958
             have I3198 : Inv w2536 S2401 (Row (α := FrameV) 85 (Value.slice z328 m328 k328) (lV4 ++ [(⟨x273, x306, x307, out12.1, ⟨(Value.slice z294 m294 k294)⟩⟩ : FrameV)]) :: Row (α := Bool) 4 (Value.slice z294 m294 k294) (s13) :: X1843) := hI1958
             have q2578 : f 134 = (Value.bool (x273)) := vt (hA1843.at_ 2 rfl _ rfl) rfl
             have q2579 : f 135 = vs1938 6 := (hA1843.at_ 3 rfl _ rfl).1 _ rfl
             have r797 : RV S2401 (vs1938 6) a0 := (hA1843.at_ 3 rfl _ rfl).2
             obtain ⟨u458, hu422⟩ : ∃ u, vs1938 6 = u := ⟨_, rfl⟩
             rw [hu422] at q2579 r797
             obtain ⟨c157, e2703, r798⟩ := Panel.inv r797
             subst e2703
             obtain ⟨z370, m370, k370, e2704⟩ := rv_form r798
             subst e2704
             have q2580 : f 136 = (Value.slice z2 m2 k2) := vt (hA1843.at_ 4 rfl _ rfl) rfl
             have q2581 : f 137 = (Value.int .i64 ((i9 : Int))) := vt (hA1843.at_ 5 rfl _ rfl) rfl
             have q2582 : f 138 = (Value.slice z328 m328 k328) := vt (hA1843.at_ 6 rfl _ rfl) rfl
             obtain ⟨S2402, Fr216, le2402, I3199, r799, r800, bk216⟩ := Inv.lend2 ((I3198.pull 1).pull 1)
             refine opg_taken (c := x273) rfl rfl rfl rfl q2578 hc238 (op_call (vs := [(Value.agg #[(Value.int .i64 (a0.Sensors)), (Value.slice z370 m370 k370), (Value.int .i64 (a0.Stale)), (Value.int .i64 (a0.Limit))]), (Value.slice z2 m2 k2), (Value.int .i64 ((i9 : Int))), (Value.slice z328 m328 k328)]) rfl ca72 rfl (args4 q2579 q2580 q2581 q2582) (F72_ok I3199 (Panel.rv (s := a0) (r798.mono le2402)) (h2_.mono (((((((((((le1.trans le10).trans le1837).trans le1852).trans le1853).trans le1964).trans le1965).trans le1966).trans le1967).trans le2324).trans le2401).trans le2402)) (frame_rv (frame_rel (frame_relm ((le2324.trans le2401).trans le2402) hR4) ⟨rfl, rfl, rfl, rfl, r800⟩) r799) hx357) (fun v248 w2537 S2403 O188 le2403 I3201 hv188 => ?_))
             obtain ⟨rfl, rfl⟩ := hv188
             have I3200 := bk216 [] trivial I3201 le2403
             refine ⟨_, _, rfl, PH.Le.refl _, ?_, ?_⟩
             ·
              exact rfl
             ·
              exact ((I3200.pull 1).pull 1)
            ·
             intro vs1939 f w2538 S2404 X1844 le2404 hA1844 hK1939 hI1959
             have I3202 : Inv w2538 S2404 (X1844) := hI1959
             have q2583 : f 134 = (Value.bool (x273)) := vt (hA1844.at_ 2 rfl _ rfl) rfl
             have q2584 : f 139 = (Value.bool (x357)) := vt (hA1844.at_ 7 rfl _ rfl) rfl
             refine opg_plain rfl rfl (op_pick_t (c := x273) (a := (Value.bool (x357))) rfl q2583 hc238 q2584 ?_)
             refine ⟨_, _, rfl, PH.Le.refl _, ?_, ?_⟩
             ·
              exact rfl
             ·
              exact I3202
            ·
             intro vs1940 f w2539 S2405 X1845 le2405 hA1845 hK1940 hI1960
             have I3203 : Inv w2539 S2405 (X1845) := hI1960
             have q2585 : f 140 = (Value.bool (x357)) := vt (hA1845.at_ 8 rfl _ rfl) rfl
             refine opg_plain rfl rfl (op_move (v := (Value.bool (x357))) rfl q2585 ?_)
             refine ⟨_, _, rfl, PH.Le.refl _, ?_, ?_⟩
             ·
              exact rfl
             ·
              exact I3203
            ·
             intro vs1941 f w2540 S2406 X1846 le2406 hA1846 hK1941 hI1961
             have I3204 : Inv w2540 S2406 (X1846) := hI1961
             have q2586 : f 141 = (Value.bool (x357)) := vt (hA1846.at_ 9 rfl _ rfl) rfl
             exact opg_skip (c := x357) rfl rfl rfl rfl q2586 hc239 rfl ⟨_, _, rfl, PH.Le.refl _, rfl, I3204⟩
            ·
             intro vs1942 f w2541 S2407 X1847 le2407 hA1847 hK1942 hI1962
             have I3205 : Inv w2541 S2407 (X1847) := hI1962
             have q2587 : f 141 = (Value.bool (x357)) := vt (hA1847.at_ 9 rfl _ rfl) rfl
             exact opg_skip (c := x357) rfl rfl rfl rfl q2587 hc239 rfl ⟨_, _, rfl, PH.Le.refl _, rfl, I3205⟩
            ·
             intro vs1943 f w2542 S2408 X1848 le2408 hA1848 hK1943 hI1963
             have I3206 : Inv w2542 S2408 (X1848) := hI1963
             have q2588 : f 141 = (Value.bool (x357)) := vt (hA1848.at_ 9 rfl _ rfl) rfl
             exact opg_skip (c := x357) rfl rfl rfl rfl q2588 hc239 rfl ⟨_, _, rfl, PH.Le.refl _, rfl, I3206⟩
            ·
             intro vs1944 f w2543 S2409 X1849 le2409 hA1849 hK1944 hI1964
             have I3207 : Inv w2543 S2409 (X1849) := hI1964
             have q2589 : f 141 = (Value.bool (x357)) := vt (hA1849.at_ 9 rfl _ rfl) rfl
             have q2590 : f 142 = undef := vt (hA1849.at_ 10 rfl _ rfl) rfl
             have q2591 : f 143 = undef := vt (hA1849.at_ 11 rfl _ rfl) rfl
             have q2592 : f 144 = undef := vt (hA1849.at_ 12 rfl _ rfl) rfl
             exact opg_skip (c := x357) rfl rfl rfl rfl q2589 hc239 rfl ⟨_, _, rfl, PH.Le.refl _, rfl, I3207⟩
            ·
             intro vs1945 f w2544 S2410 X1850 le2410 hA1850 hK1945 hI1965
             have I3208 : Inv w2544 S2410 (X1850) := hI1965
             have q2593 : f 141 = (Value.bool (x357)) := vt (hA1850.at_ 9 rfl _ rfl) rfl
             have q2594 : f 145 = undef := vt (hA1850.at_ 13 rfl _ rfl) rfl
             exact opg_skip (c := x357) rfl rfl rfl rfl q2593 hc239 rfl ⟨_, _, rfl, PH.Le.refl _, rfl, I3208⟩
            ·
             intro vs1946 f w2545 S2411 X1851 le2411 hA1851 hK1946 hI1966
             have I3209 : Inv w2545 S2411 (X1851) := hI1966
             have q2595 : f 141 = (Value.bool (x357)) := vt (hA1851.at_ 9 rfl _ rfl) rfl
             have q2596 : f 146 = undef := vt (hA1851.at_ 14 rfl _ rfl) rfl
             exact opg_skip (c := x357) rfl rfl rfl rfl q2595 hc239 rfl ⟨_, _, rfl, PH.Le.refl _, rfl, I3209⟩
            ·
             intro vs1947 f w2546 S2412 X1852 le2412 hA1852 hK1947 hI1967
             have I3210 : Inv w2546 S2412 (X1852) := hI1967
             have q2597 : f 147 = undef := vt (hA1852.at_ 15 rfl _ rfl) rfl
             exact opg_skip_u rfl rfl rfl rfl q2597 rfl ⟨_, _, rfl, PH.Le.refl _, rfl, I3210⟩
            ·
             intro vs1948 f w2547 S2413 X1853 le2413 hA1853 hK1948 hI1968
             have I3211 : Inv w2547 S2413 (X1853) := hI1968
             have q2598 : f 141 = (Value.bool (x357)) := vt (hA1853.at_ 9 rfl _ rfl) rfl
             have q2599 : f 147 = undef := vt (hA1853.at_ 15 rfl _ rfl) rfl
             have q2600 : f 148 = undef := vt (hA1853.at_ 16 rfl _ rfl) rfl
             exact opg_skip (c := x357) rfl rfl rfl rfl q2598 hc239 rfl ⟨_, _, rfl, PH.Le.refl _, rfl, I3211⟩
            ·
             intro vs1949 f w2548 S2414 X1854 le2414 hA1854 hK1949 hI1969
             have I3212 : Inv w2548 S2414 (X1854) := hI1969
             have q2601 : f 141 = (Value.bool (x357)) := vt (hA1854.at_ 9 rfl _ rfl) rfl
             have q2602 : f 149 = undef := vt (hA1854.at_ 17 rfl _ rfl) rfl
             refine opg_plain rfl rfl (op_pick_f (c := x357) (b := (Value.bool (false))) rfl q2601 hc239 rfl ?_)
             refine ⟨_, _, rfl, PH.Le.refl _, ?_, ?_⟩
             ·
              exact rfl
             ·
              exact I3212
            ·
             intro vs1950 f w2549 S2415 X1855 le2415 hA1855 hK1950 hI1970
             have I3213 : Inv w2549 S2415 (Row (α := Bool) 4 (Value.slice z294 m294 k294) (s13) :: X1855) := hI1970
             have q2603 : f 130 = (Value.slice z294 m294 k294) := vt (hA1855.at_ 1 rfl _ rfl) rfl
             have q2604 : f 131 = (Value.int .i64 ((i9 : Int))) := vt (hA1855.at_ 2 rfl _ rfl) rfl
             refine opg_plain rfl rfl (op_indexAddr_src (v := (Value.slice z294 m294 k294)) (i := (i9 : Int)) (e := x361) rfl Try.underlying83 sh4 q2603 (Inv.rowSrc (I3213.nth 0 rfl)) q2604 hx361 ?_)
             refine ⟨_, _, rfl, PH.Le.refl _, ?_, ?_⟩
             ·
              exact rfl
             ·
              exact I3213
            ·
             intro vs1951 f w2550 S2416 X1856 le2416 hA1856 hK1951 hI1971
             have I3214 : Inv w2550 S2416 (Row (α := Bool) 4 (Value.slice z294 m294 k294) (s13) :: X1856) := hI1971
             have q2605 : f 150 = (Value.bool (false)) := vt (hA1856.at_ 21 rfl _ rfl) rfl
             have q2606 : f 151 = (elemPtr (Value.slice z294 m294 k294) ((i9 : Int)) (Enc.sz Bool)) := vt (hA1856.at_ 22 rfl _ rfl) rfl
             refine opg_plain rfl rfl (op_storeRow (u := (Value.bool (false))) (e' := false) sh4 I3214 q2606 q2605 hx361 (rv_bool' _) (fun w2551 I3215 => ?_))
             refine ⟨undef, _, rfl, PH.Le.refl _, ?_, ?_⟩
             ·
              exact trivial
             ·
              exact I3215
            ·
             intro vs1952 f w2552 S2417 le2417 hF96 hK1952 hI1972
             have e2705 : f 1 = (Value.int .i64 (a1)) := (hK1952 1 (keep_all rfl)).trans e2665
             have e2706 : f 2 = (Value.slice z2 m2 k2) := (hK1952 2 (keep_all rfl)).trans e2666
             have e2707 : f 3 = (Value.pointer (some ⟨g1, 0, none⟩)) := (hK1952 3 (keep_all rfl)).trans e2667
             have e2708 : f 7 = (Value.slice z328 m328 k328) := (hK1952 7 (keep_all rfl)).trans e2668
             have e2709 : f 8 = (Value.slice z7 m7 k7) := (hK1952 8 (keep_all rfl)).trans e2669
             have e2710 : f 9 = (Value.slice z8 m8 k8) := (hK1952 9 (keep_all rfl)).trans e2670
             have e2711 : f 10 = (Value.int .i64 ((i7 : Int))) := (hK1952 10 (keep_all rfl)).trans e2671
             have e2712 : f 11 = (Value.pointer (some ⟨g13, 0, none⟩)) := (hK1952 11 (keep_all rfl)).trans e2672
             have e2713 : f 15 = (Value.int .i64 ((i9 : Int))) := (hK1952 15 (keep_all rfl)).trans e2673
             have I3216 : Inv w2552 S2417 (Cells (ptrBlk (Value.pointer (some ⟨g13, 0, none⟩))) 85 #[(Value.bool (x273)), (Value.slice z297 m297 k297), (Value.slice z298 m298 k298), (Value.slice z293 m293 k293), (Value.slice z294 m294 k294)] :: Row (α := FrameV) 85 (Value.slice z328 m328 k328) (lV4 ++ [(⟨x273, x306, x307, out12.1, ⟨(Value.slice z294 m294 k294)⟩⟩ : FrameV)]) :: Row (α := Bool) 4 (Value.slice z294 m294 k294) (s13.set ((i9 : Int)).toNat false) :: Row (α := Int) 3 (Value.slice z7 m7 k7) (out11.1) :: Row (α := Int) 3 (Value.slice z8 m8 k8) (out11.2) :: Fr) := hI1972
             refine wp_region' ?_
             refine wl_op rfl (op_move (v := (Value.int .i64 ((i9 : Int)))) rfl e2713 ?_)
             refine wl_op rfl (op_add (a := (i9 : Int)) (b := 1) rfl rfl rfl ?_)
             refine wl_op rfl (op_assign (v := (Value.int .i64 (w64 ((i9 : Int) + 1)))) rfl rfl ?_)
             refine wl_nil ?_
             obtain rfl := Option.some.inj h202
             exact ⟨_, (le2324.trans le2417), ((((I3216.pull 4).pull 4).pull 4).pull 4), e2705, e2706, e2707, e2708, e2709, e2710, e2711, e2712, (idx_next hlt9 hk4)⟩
          ·
           obtain ⟨x362, hx362, h202⟩ := bnd h202
           refine wp_draw (sps := [⟨some 129, [], [0], fun vs_ T_ => fr0 vs_ 0 = (Value.pointer (some ⟨g13, 4, none⟩)), [], [], [], fun _ h_ => h_⟩, ⟨some 130, [0], [1], fun vs_ T_ => fr0 vs_ 0 = (Value.slice z294 m294 k294), [0], [], [], fun _ h_ => h_⟩, ⟨some 131, [], [2], fun vs_ T_ => fr0 vs_ 0 = (Value.int .i64 ((i9 : Int))), [], [], [], fun _ h_ => h_⟩, ⟨some 132, [], [3], fun vs_ T_ => fr0 vs_ 0 = (Value.pointer (some ⟨g13, 0, none⟩)), [], [], [], fun _ h_ => h_⟩, ⟨some 133, [3], [4], fun vs_ T_ => fr0 vs_ 0 = (Value.bool (x273)), [0], [], [], fun _ h_ => h_⟩, ⟨some 134, [3, 4], [5], fun vs_ T_ => fr0 vs_ 0 = (Value.bool (x273)), [], [], [], fun _ h_ => h_⟩, ⟨some 135, [3, 4, 5], [6], fun vs_ T_ => fr0 vs_ 0 = undef, [], [], [], fun _ h_ => h_⟩, ⟨some 136, [3, 4, 5], [7], fun vs_ T_ => fr0 vs_ 0 = undef, [], [], [], fun _ h_ => h_⟩, ⟨some 137, [3, 4, 5], [8], fun vs_ T_ => fr0 vs_ 0 = undef, [], [], [], fun _ h_ => h_⟩, ⟨some 138, [3, 4, 5], [9], fun vs_ T_ => fr0 vs_ 0 = undef, [], [], [], fun _ h_ => h_⟩, ⟨some 139, [3, 4, 5, 6, 7, 8, 9], [10], fun vs_ T_ => fr0 vs_ 0 = undef, [], [], [], fun _ h_ => h_⟩, ⟨some 140, [3, 4, 5, 6, 7, 8, 9, 10], [11], fun vs_ T_ => fr0 vs_ 0 = (Value.bool (false)), [], [], [], fun _ h_ => h_⟩, ⟨some 141, [3, 4, 5, 6, 7, 8, 9, 10, 11], [12], fun vs_ T_ => fr0 vs_ 0 = (Value.bool (false)), [], [], [], fun _ h_ => h_⟩, ⟨some 142, [3, 4, 5, 6, 7, 8, 9, 10, 11, 12], [13], fun vs_ T_ => fr0 vs_ 0 = undef, [], [], [], fun _ h_ => h_⟩, ⟨some 143, [3, 4, 5, 6, 7, 8, 9, 10, 11, 12], [14], fun vs_ T_ => fr0 vs_ 0 = undef, [], [], [], fun _ h_ => h_⟩, ⟨some 144, [3, 4, 5, 6, 7, 8, 9, 10, 11, 12], [15], fun vs_ T_ => fr0 vs_ 0 = undef, [], [], [], fun _ h_ => h_⟩, ⟨some 145, [3, 4, 5, 6, 7, 8, 9, 10, 11, 12, 13, 14, 15], [16], fun vs_ T_ => fr0 vs_ 0 = undef, [], [], [], fun _ h_ => h_⟩, ⟨some 146, [3, 4, 5, 6, 7, 8, 9, 10, 11, 12, 13, 14, 15, 16], [17], fun vs_ T_ => fr0 vs_ 0 = undef, [], [], [], fun _ h_ => h_⟩, ⟨some 147, [3, 4, 5, 6, 7, 8, 9, 10, 11, 12, 13, 14, 15, 16, 17], [18], fun vs_ T_ => fr0 vs_ 0 = undef, [], [], [], fun _ h_ => h_⟩, ⟨some 148, [3, 4, 5, 6, 7, 8, 9, 10, 11, 12, 13, 14, 15, 16, 17, 18], [19], fun vs_ T_ => fr0 vs_ 0 = undef, [], [], [], fun _ h_ => h_⟩, ⟨some 149, [3, 4, 5, 6, 7, 8, 9, 10, 11, 12, 13, 14, 15, 16, 17, 18, 19], [20], fun vs_ T_ => fr0 vs_ 0 = undef, [], [], [], fun _ h_ => h_⟩, ⟨some 150, [3, 4, 5, 6, 7, 8, 9, 10, 11, 12, 13, 14, 15, 16, 17, 18, 19, 20], [21], fun vs_ T_ => fr0 vs_ 0 = (Value.bool (false)), [], [], [], fun _ h_ => h_⟩, ⟨some 151, [0, 1, 2, 3, 4, 5, 6, 7, 8, 9, 10, 11, 12, 13, 14, 15, 16, 17, 18, 19, 20, 21], [22], fun vs_ T_ => fr0 vs_ 0 = (elemPtr (Value.slice z294 m294 k294) ((i9 : Int)) (Enc.sz Bool)), [1], [], [], fun _ h_ => h_⟩, ⟨none, [0, 1, 2, 3, 4, 5, 6, 7, 8, 9, 10, 11, 12, 13, 14, 15, 16, 17, 18, 19, 20, 21, 22], [], fun vs_ T_ => True, [], [1], [2], fun _ h_ => h_⟩]) (tks := [⟨none, none, [], fun vs_ => Cells (ptrBlk (Value.pointer (some ⟨g13, 0, none⟩))) 85 #[(Value.bool (x273)), (Value.slice z297 m297 k297), (Value.slice z298 m298 k298), (Value.slice z293 m293 k293), (Value.slice z294 m294 k294)]⟩, ⟨none, some 23, [], fun vs_ => Row (α := Bool) 4 (Value.slice z294 m294 k294) (s13)⟩, ⟨some 23, none, [], fun vs_ => Row (α := Bool) 4 (Value.slice z294 m294 k294) (s13.set ((i9 : Int)).toNat false)⟩]) (O := Row (α := FrameV) 85 (Value.slice z328 m328 k328) (lV4 ++ [(⟨x273, x306, x307, out12.1, ⟨(Value.slice z294 m294 k294)⟩⟩ : FrameV)]) :: Row (α := Int) 3 (Value.slice z7 m7 k7) (out11.1) :: Row (α := Int) 3 (Value.slice z8 m8 k8) (out11.2) :: Fr) rfl (by kernel_rfl) ((I3106.pull 1).pull 4) ⟨?_, ?_, ?_, ?_, ?_, ?_, ?_, ?_, ?_, ?_, ?_, ?_, ?_, ?_, ?_, ?_, ?_, ?_, ?_, ?_, ?_, ?_, ?_, ?_, trivial⟩ ?_
           ·
            intro vs1953 f w2554 S2418 X1857 le2418 hA1857 hK1953 hI1973
            have I3218 : Inv w2554 S2418 (X1857) := hI1973
            refine opg_plain rfl rfl (op_fieldAddr (v := (Value.pointer (some ⟨g13, 0, none⟩))) rfl fa85_4 ((hK1953 11 (keep_of rfl)).trans e2672) rfl ?_)
            refine ⟨_, _, rfl, PH.Le.refl _, ?_, ?_⟩
            ·
             exact rfl
            ·
             exact I3218
           ·
            intro vs1954 f w2555 S2419 X1858 le2419 hA1858 hK1954 hI1974
            have I3219 : Inv w2555 S2419 (Cells (ptrBlk (Value.pointer (some ⟨g13, 0, none⟩))) 85 #[(Value.bool (x273)), (Value.slice z297 m297 k297), (Value.slice z298 m298 k298), (Value.slice z293 m293 k293), (Value.slice z294 m294 k294)] :: X1858) := hI1974
            have q2607 : f 129 = (Value.pointer (some ⟨g13, 4, none⟩)) := vt (hA1858.at_ 0 rfl _ rfl) rfl
            refine opg_plain rfl rfl (op_load1 (c := (Value.slice z294 m294 k294)) rfl sh83 (I3219.nth 0 rfl) q2607 rfl ?_)
            refine ⟨_, _, rfl, PH.Le.refl _, ?_, ?_⟩
            ·
             exact rfl
            ·
             exact I3219
           ·
            intro vs1955 f w2556 S2420 X1859 le2420 hA1859 hK1955 hI1975
            have I3220 : Inv w2556 S2420 (X1859) := hI1975
            refine opg_plain rfl rfl (op_move (v := (Value.int .i64 ((i9 : Int)))) rfl ((hK1955 15 (keep_of rfl)).trans e2673) ?_)
            refine ⟨_, _, rfl, PH.Le.refl _, ?_, ?_⟩
            ·
             exact rfl
            ·
             exact I3220
           ·
            intro vs1956 f w2557 S2421 X1860 le2421 hA1860 hK1956 hI1976
            have I3221 : Inv w2557 S2421 (X1860) := hI1976
            refine opg_plain rfl rfl (op_fieldAddr (v := (Value.pointer (some ⟨g13, 0, none⟩))) rfl fa85_0 ((hK1956 11 (keep_of rfl)).trans e2672) rfl ?_)
            refine ⟨_, _, rfl, PH.Le.refl _, ?_, ?_⟩
            ·
             exact rfl
            ·
             exact I3221
           ·
            intro vs1957 f w2558 S2422 X1861 le2422 hA1861 hK1957 hI1977
            have I3222 : Inv w2558 S2422 (Cells (ptrBlk (Value.pointer (some ⟨g13, 0, none⟩))) 85 #[(Value.bool (x273)), (Value.slice z297 m297 k297), (Value.slice z298 m298 k298), (Value.slice z293 m293 k293), (Value.slice z294 m294 k294)] :: X1861) := hI1977
            have q2608 : f 132 = (Value.pointer (some ⟨g13, 0, none⟩)) := vt (hA1861.at_ 0 rfl _ rfl) rfl
            refine opg_plain rfl rfl (op_load1 (c := (Value.bool (x273))) rfl sh4 (I3222.nth 0 rfl) q2608 rfl ?_)
            refine ⟨_, _, rfl, PH.Le.refl _, ?_, ?_⟩
            ·
             exact rfl
            ·
             exact I3222
           ·
            intro vs1958 f w2559 S2423 X1862 le2423 hA1862 hK1958 hI1978
            have I3223 : Inv w2559 S2423 (X1862) := hI1978
            have q2609 : f 133 = (Value.bool (x273)) := vt (hA1862.at_ 1 rfl _ rfl) rfl
            refine opg_plain rfl rfl (op_move (v := (Value.bool (x273))) rfl q2609 ?_)
            refine ⟨_, _, rfl, PH.Le.refl _, ?_, ?_⟩
            ·
             exact rfl
            ·
             exact I3223
           ·
            intro vs1959 f w2560 S2424 X1863 le2424 hA1863 hK1959 hI1979
            have I3224 : Inv w2560 S2424 (X1863) := hI1979
            have q2610 : f 134 = (Value.bool (x273)) := vt (hA1863.at_ 2 rfl _ rfl) rfl
            exact opg_skip (c := x273) rfl rfl rfl rfl q2610 hc238 rfl ⟨_, _, rfl, PH.Le.refl _, rfl, I3224⟩
           ·
            intro vs1960 f w2561 S2425 X1864 le2425 hA1864 hK1960 hI1980
            have I3225 : Inv w2561 S2425 (X1864) := hI1980
            have q2611 : f 134 = (Value.bool (x273)) := vt (hA1864.at_ 2 rfl _ rfl) rfl
            exact opg_skip (c := x273) rfl rfl rfl rfl q2611 hc238 rfl ⟨_, _, rfl, PH.Le.refl _, rfl, I3225⟩
           ·
            intro vs1961 f w2562 S2426 X1865 le2426 hA1865 hK1961 hI1981
            have I3226 : Inv w2562 S2426 (X1865) := hI1981
            have q2612 : f 134 = (Value.bool (x273)) := vt (hA1865.at_ 2 rfl _ rfl) rfl
            exact opg_skip (c := x273) rfl rfl rfl rfl q2612 hc238 rfl ⟨_, _, rfl, PH.Le.refl _, rfl, I3226⟩
           ·
            intro vs1962 f w2563 S2427 X1866 le2427 hA1866 hK1962 hI1982
            have I3227 : Inv w2563 S2427 (X1866) := hI1982
            have q2613 : f 134 = (Value.bool (x273)) := vt (hA1866.at_ 2 rfl _ rfl) rfl
            exact opg_skip (c := x273) rfl rfl rfl rfl q2613 hc238 rfl ⟨_, _, rfl, PH.Le.refl _, rfl, I3227⟩
           ·
            intro vs1963 f w2564 S2428 X1867 le2428 hA1867 hK1963 hI1983
            have I3228 : Inv w2564 S2428 (X1867) := hI1983
            have q2614 : f 134 = (Value.bool (x273)) := vt (hA1867.at_ 2 rfl _ rfl) rfl
            have q2615 : f 135 = undef := vt (hA1867.at_ 3 rfl _ rfl) rfl
            have q2616 : f 136 = undef := vt (hA1867.at_ 4 rfl _ rfl) rfl
            have q2617 : f 137 = undef := vt (hA1867.at_ 5 rfl _ rfl) rfl
            have q2618 : f 138 = undef := vt (hA1867.at_ 6 rfl _ rfl) rfl
            exact opg_skip (c := x273) rfl rfl rfl rfl q2614 hc238 rfl ⟨_, _, rfl, PH.Le.refl _, rfl, I3228⟩
           ·
            intro vs1964 f w2565 S2429 X1868 le2429 hA1868 hK1964 hI1984
            have I3229 : Inv w2565 S2429 (X1868) := hI1984
            have q2619 : f 134 = (Value.bool (x273)) := vt (hA1868.at_ 2 rfl _ rfl) rfl
            have q2620 : f 139 = undef := vt (hA1868.at_ 7 rfl _ rfl) rfl
            refine opg_plain rfl rfl (op_pick_f (c := x273) (b := (Value.bool (false))) rfl q2619 hc238 rfl ?_)
            refine ⟨_, _, rfl, PH.Le.refl _, ?_, ?_⟩
            ·
             exact rfl
            ·
             exact I3229
           ·
            intro vs1965 f w2566 S2430 X1869 le2430 hA1869 hK1965 hI1985
            have I3230 : Inv w2566 S2430 (X1869) := hI1985
            have q2621 : f 140 = (Value.bool (false)) := vt (hA1869.at_ 8 rfl _ rfl) rfl
            refine opg_plain rfl rfl (op_move (v := (Value.bool (false))) rfl q2621 ?_)
            refine ⟨_, _, rfl, PH.Le.refl _, ?_, ?_⟩
            ·
             exact rfl
            ·
             exact I3230
           ·
            intro vs1966 f w2567 S2431 X1870 le2431 hA1870 hK1966 hI1986
            have I3231 : Inv w2567 S2431 (X1870) := hI1986
            have q2622 : f 141 = (Value.bool (false)) := vt (hA1870.at_ 9 rfl _ rfl) rfl
            exact opg_skip (c := false) rfl rfl rfl rfl q2622 rfl rfl ⟨_, _, rfl, PH.Le.refl _, rfl, I3231⟩
           ·
            intro vs1967 f w2568 S2432 X1871 le2432 hA1871 hK1967 hI1987
            have I3232 : Inv w2568 S2432 (X1871) := hI1987
            have q2623 : f 141 = (Value.bool (false)) := vt (hA1871.at_ 9 rfl _ rfl) rfl
            exact opg_skip (c := false) rfl rfl rfl rfl q2623 rfl rfl ⟨_, _, rfl, PH.Le.refl _, rfl, I3232⟩
           ·
            intro vs1968 f w2569 S2433 X1872 le2433 hA1872 hK1968 hI1988
            have I3233 : Inv w2569 S2433 (X1872) := hI1988
            have q2624 : f 141 = (Value.bool (false)) := vt (hA1872.at_ 9 rfl _ rfl) rfl
            exact opg_skip (c := false) rfl rfl rfl rfl q2624 rfl rfl ⟨_, _, rfl, PH.Le.refl _, rfl, I3233⟩
           ·
            intro vs1969 f w2570 S2434 X1873 le2434 hA1873 hK1969 hI1989
            have I3234 : Inv w2570 S2434 (X1873) := hI1989
            have q2625 : f 141 = (Value.bool (false)) := vt (hA1873.at_ 9 rfl _ rfl) rfl
            have q2626 : f 142 = undef := vt (hA1873.at_ 10 rfl _ rfl) rfl
            have q2627 : f 143 = undef := vt (hA1873.at_ 11 rfl _ rfl) rfl
            have q2628 : f 144 = undef := vt (hA1873.at_ 12 rfl _ rfl) rfl
            exact opg_skip (c := false) rfl rfl rfl rfl q2625 rfl rfl ⟨_, _, rfl, PH.Le.refl _, rfl, I3234⟩
           ·
            intro vs1970 f w2571 S2435 X1874 le2435 hA1874 hK1970 hI1990
            have I3235 : Inv w2571 S2435 (X1874) := hI1990
            have q2629 : f 141 = (Value.bool (false)) := vt (hA1874.at_ 9 rfl _ rfl) rfl
            have q2630 : f 145 = undef := vt (hA1874.at_ 13 rfl _ rfl) rfl
            exact opg_skip (c := false) rfl rfl rfl rfl q2629 rfl rfl ⟨_, _, rfl, PH.Le.refl _, rfl, I3235⟩
           ·
            intro vs1971 f w2572 S2436 X1875 le2436 hA1875 hK1971 hI1991
            have I3236 : Inv w2572 S2436 (X1875) := hI1991
            have q2631 : f 141 = (Value.bool (false)) := vt (hA1875.at_ 9 rfl _ rfl) rfl
            have q2632 : f 146 = undef := vt (hA1875.at_ 14 rfl _ rfl) rfl
            exact opg_skip (c := false) rfl rfl rfl rfl q2631 rfl rfl ⟨_, _, rfl, PH.Le.refl _, rfl, I3236⟩
           ·
            intro vs1972 f w2573 S2437 X1876 le2437 hA1876 hK1972 hI1992
            have I3237 : Inv w2573 S2437 (X1876) := hI1992
            have q2633 : f 147 = undef := vt (hA1876.at_ 15 rfl _ rfl) rfl
            exact opg_skip_u rfl rfl rfl rfl q2633 rfl ⟨_, _, rfl, PH.Le.refl _, rfl, I3237⟩
           ·
            intro vs1973 f w2574 S2438 X1877 le2438 hA1877 hK1973 hI1993
            have I3238 : Inv w2574 S2438 (X1877) := hI1993
            have q2634 : f 141 = (Value.bool (false)) := vt (hA1877.at_ 9 rfl _ rfl) rfl
            have q2635 : f 147 = undef := vt (hA1877.at_ 15 rfl _ rfl) rfl
            have q2636 : f 148 = undef := vt (hA1877.at_ 16 rfl _ rfl) rfl
            exact opg_skip (c := false) rfl rfl rfl rfl q2634 rfl rfl ⟨_, _, rfl, PH.Le.refl _, rfl, I3238⟩
           ·
            intro vs1974 f w2575 S2439 X1878 le2439 hA1878 hK1974 hI1994
            have I3239 : Inv w2575 S2439 (X1878) := hI1994
            have q2637 : f 141 = (Value.bool (false)) := vt (hA1878.at_ 9 rfl _ rfl) rfl
            have q2638 : f 149 = undef := vt (hA1878.at_ 17 rfl _ rfl) rfl
            refine opg_plain rfl rfl (op_pick_f (c := false) (b := (Value.bool (false))) rfl q2637 rfl rfl ?_)
            refine ⟨_, _, rfl, PH.Le.refl _, ?_, ?_⟩
            ·
             exact rfl
            ·
             exact I3239
           ·
            intro vs1975 f w2576 S2440 X1879 le2440 hA1879 hK1975 hI1995
            have I3240 : Inv w2576 S2440 (Row (α := Bool) 4 (Value.slice z294 m294 k294) (s13) :: X1879) := hI1995
            have q2639 : f 130 = (Value.slice z294 m294 k294) := vt (hA1879.at_ 1 rfl _ rfl) rfl
            have q2640 : f 131 = (Value.int .i64 ((i9 : Int))) := vt (hA1879.at_ 2 rfl _ rfl) rfl
            refine opg_plain rfl rfl (op_indexAddr_src (v := (Value.slice z294 m294 k294)) (i := (i9 : Int)) (e := x362) rfl Try.underlying83 sh4 q2639 (Inv.rowSrc (I3240.nth 0 rfl)) q2640 hx362 ?_)
            refine ⟨_, _, rfl, PH.Le.refl _, ?_, ?_⟩
            ·
             exact rfl
            ·
             exact I3240
           ·
            intro vs1976 f w2577 S2441 X1880 le2441 hA1880 hK1976 hI1996
            have I3241 : Inv w2577 S2441 (Row (α := Bool) 4 (Value.slice z294 m294 k294) (s13) :: X1880) := hI1996
            have q2641 : f 150 = (Value.bool (false)) := vt (hA1880.at_ 21 rfl _ rfl) rfl
            have q2642 : f 151 = (elemPtr (Value.slice z294 m294 k294) ((i9 : Int)) (Enc.sz Bool)) := vt (hA1880.at_ 22 rfl _ rfl) rfl
            refine opg_plain rfl rfl (op_storeRow (u := (Value.bool (false))) (e' := false) sh4 I3241 q2642 q2641 hx362 (rv_bool' _) (fun w2578 I3242 => ?_))
            refine ⟨undef, _, rfl, PH.Le.refl _, ?_, ?_⟩
            ·
             exact trivial
            ·
             exact I3242
           ·
            intro vs1977 f w2579 S2442 le2442 hF97 hK1977 hI1997
            have e2714 : f 1 = (Value.int .i64 (a1)) := (hK1977 1 (keep_all rfl)).trans e2665
            have e2715 : f 2 = (Value.slice z2 m2 k2) := (hK1977 2 (keep_all rfl)).trans e2666
            have e2716 : f 3 = (Value.pointer (some ⟨g1, 0, none⟩)) := (hK1977 3 (keep_all rfl)).trans e2667
            have e2717 : f 7 = (Value.slice z328 m328 k328) := (hK1977 7 (keep_all rfl)).trans e2668
            have e2718 : f 8 = (Value.slice z7 m7 k7) := (hK1977 8 (keep_all rfl)).trans e2669
            have e2719 : f 9 = (Value.slice z8 m8 k8) := (hK1977 9 (keep_all rfl)).trans e2670
            have e2720 : f 10 = (Value.int .i64 ((i7 : Int))) := (hK1977 10 (keep_all rfl)).trans e2671
            have e2721 : f 11 = (Value.pointer (some ⟨g13, 0, none⟩)) := (hK1977 11 (keep_all rfl)).trans e2672
            have e2722 : f 15 = (Value.int .i64 ((i9 : Int))) := (hK1977 15 (keep_all rfl)).trans e2673
            have I3243 : Inv w2579 S2442 (Cells (ptrBlk (Value.pointer (some ⟨g13, 0, none⟩))) 85 #[(Value.bool (x273)), (Value.slice z297 m297 k297), (Value.slice z298 m298 k298), (Value.slice z293 m293 k293), (Value.slice z294 m294 k294)] :: Row (α := Bool) 4 (Value.slice z294 m294 k294) (s13.set ((i9 : Int)).toNat false) :: Row (α := FrameV) 85 (Value.slice z328 m328 k328) (lV4 ++ [(⟨x273, x306, x307, out12.1, ⟨(Value.slice z294 m294 k294)⟩⟩ : FrameV)]) :: Row (α := Int) 3 (Value.slice z7 m7 k7) (out11.1) :: Row (α := Int) 3 (Value.slice z8 m8 k8) (out11.2) :: Fr) := hI1997
            refine wp_region' ?_
            refine wl_op rfl (op_move (v := (Value.int .i64 ((i9 : Int)))) rfl e2722 ?_)
            refine wl_op rfl (op_add (a := (i9 : Int)) (b := 1) rfl rfl rfl ?_)
            refine wl_op rfl (op_assign (v := (Value.int .i64 (w64 ((i9 : Int) + 1)))) rfl rfl ?_)
            refine wl_nil ?_
            obtain rfl := Option.some.inj h202
            exact ⟨_, (le2324.trans le2442), ((((I3243.pull 4).pull 4).pull 3).pull 4), e2714, e2715, e2716, e2717, e2718, e2719, e2720, e2721, (idx_next hlt9 hk4)⟩
        ·
         rintro f w hI1998
         obtain ⟨S2443, le2443, I3244, e2723, e2724, e2725, e2726, e2727, e2728, e2729, e2730, e2731⟩ := hI1998
         refine wp_seq' ?_
         refine wp_seq' ?_
         refine wp_region' ?_
         refine wl_op rfl (op_move (v := (Value.int .i64 ((a0.Doors.length : Int)))) rfl e2731 ?_)
         refine wl_op rfl (op_fieldAddr_t (v := (Value.pointer (some ⟨g1, 0, none⟩))) rfl fa24_1 e2725 ((p1.mono ((((((((le10.trans le1837).trans le1852).trans le1853).trans le1964).trans le1965).trans le1966).trans le1967).trans le2443)).at_ I3244) ?_)
         refine wl_op rfl (op_load (v := (fieldPtr (Value.pointer (some ⟨g1, 0, none⟩)) 1)) (e := a0.Doors) rfl sh22 rfl (((p1.mono ((((((((le10.trans le1837).trans le1852).trans le1853).trans le1964).trans le1965).trans le1966).trans le1967).trans le2443)).at_ I3244).fld Panel.fld1) (fun u460 hu424 => ?_))
         obtain ⟨z372, m372, k372, e2733⟩ := rv_form hu424
         subst e2733
         refine wl_op rfl (op_len_rv rfl Try.underlying22 rfl hu424 ?_)
         refine wl_op rfl (op_lss (a := (a0.Doors.length : Int)) (b := (a0.Doors.length : Int)) rfl rfl rfl ?_)
         refine wl_nil ?_
         refine wp_cond_f (b := decide ((a0.Doors.length : Int) < (a0.Doors.length : Int))) rfl (len_f _) ?_
         refine wp_exit' ?_
         exact ⟨_, le2443, (((((I3244.pull 4).pull 4).pull 4).pull 4).pull 4), e2723, e2724, e2725, e2726, e2727, e2728, e2729, e2730⟩
       ·
        rintro f w ⟨S2444, le2444, I3245, e2734, e2735, e2736, e2737, e2738, e2739, e2740, e2741⟩
        obtain ⟨S2445, le2445, I3246, r801⟩ := Inv.rowFreeze (I3245.pull 1)
        have I3247 := frame_row (l := (s10.1 ++ [(⟨x273, x306, x307, out12.1, out13⟩ : Ref08_Frame)])) (frame_rel (frame_relm (le2444.trans le2445) hR4) ⟨rfl, rfl, rfl, rfl, r801⟩) I3246
        refine wp_region' ?_
        refine wl_op rfl (op_move (v := (Value.int .i64 ((i7 : Int)))) rfl e2740 ?_)
        refine wl_op rfl (op_add (a := (i7 : Int)) (b := 1) rfl rfl rfl ?_)
        refine wl_op rfl (op_assign (v := (Value.int .i64 (w64 ((i7 : Int) + 1)))) rfl rfl ?_)
        refine wl_nil ?_
        obtain rfl := Option.some.inj h154
        exact ⟨_, _, _, _, ((((((((le1837.trans le1852).trans le1853).trans le1964).trans le1965).trans le1966).trans le1967).trans le2444).trans le2445), ((((I3247.pull 3).drop.pull 2).pull 2).pull 2), e2734, e2735, e2736, e2737, e2738, e2739, (idx_next hlt7 (cnt_le hx272))⟩
   ·
    rintro f w hI1999
    obtain ⟨S2446, z373, m373, k373, le2446, I3248, e2742, e2743, e2744, e2745, e2746, e2747, e2748⟩ := hI1999
    refine wp_seq' ?_
    refine wp_seq' ?_
    refine wp_region' ?_
    refine wl_op rfl (op_move (v := (Value.int .i64 ((x272 : Int)))) rfl e2748 ?_)
    refine wl_op rfl (op_move (v := (Value.int .i64 (a1))) rfl e2742 ?_)
    refine wl_op rfl (op_lss (a := (x272 : Int)) (b := a1) rfl rfl rfl ?_)
    refine wl_nil ?_
    refine wp_cond_f (b := decide ((x272 : Int) < a1)) rfl (cnt_f hx272) ?_
    refine wp_exit' ?_
    exact ⟨_, _, _, _, le2446, (((I3248.pull 2).pull 2).pull 2), e2742, e2743, e2744, e2745, e2746, e2747⟩
  ·
   rintro f w ⟨S2447, z282, m282, k282, le2447, I3249, e2749, e2750, e2751, e2752, e2753, e2754⟩
   refine wp_seq' ?_
   refine wp_region' ?_
   refine wl_op rfl (op_move (v := (Value.slice z282 m282 k282)) rfl e2752 ?_)
   refine wl_op rfl (op_assign (v := (Value.slice z282 m282 k282)) rfl rfl ?_)
   refine wl_nil ?_
   refine wp_ret' ?_
   obtain rfl := Option.some.inj h
   exact ⟨(Value.slice z282 m282 k282), (res1 rfl rfl), _, [Row (α := Ref08_Frame) 85 (Value.slice z282 m282 k282) (out10.1)], ((le1.trans le10).trans le2447), ((I3249.pull 1).drop.pull 1).drop, _, _, _, rfl, rfl⟩
end Go.Proofs.Ytfeomcdhhgeilaa.Pad
